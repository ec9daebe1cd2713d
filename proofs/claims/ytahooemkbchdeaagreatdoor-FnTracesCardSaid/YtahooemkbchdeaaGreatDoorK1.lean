/- FnTraces: that the program code computes these plain functions, part 1. No condition. -/
import Derived.Test.YtahooemkbchdeaaGreatDoorM2
namespace Go.Proofs.YtahooemkbchdeaaGreatDoor
noncomputable section
open Go.Am
set_option maxRecDepth 100000
set_option linter.unusedVariables false
def tab : Tab := Qu7 [(3, .int .i64), (4, .bool), (5, .int .u8), (9, .str), (22, .slice 5 (.int .u8)), (25, Zr), (31, .slice 25 (Zr)), (33, .slice 3 (.int .i64)), (35, Zbh), (36, .slice 135 (Zt)), (38, Zy), (40, Q4), (41, .slice 138 (Zbb)), (43, Xv), (45, Qt), (47, Jw), (49, Kw), (51, Z1), (54, Zqf), (55, .slice 51 (Z1)), (57, Zi7), (59, Q4), (60, .slice 148 (Wz)), (62, Zq), (64, .slice 107 (Zbb)), (75, .slice 9 (.str)), (107, Zbb), (110, Xg), (133, .arr 6 (.str)), (135, Zt), (138, Zbb), (148, Wz), (155, .int .u64), (242, Vg), (311, .slice 332 (Q6)), (332, Q6)]
theorem Q2w : TOK Tryz.prog 3 (.int .i64) := ⟨by kernel_rfl, by kernel_rfl⟩
theorem Q2x : TOK Tryz.prog 4 (.bool) := ⟨by kernel_rfl, by kernel_rfl⟩
theorem Q2y : TOK Tryz.prog 5 (.int .u8) := ⟨by kernel_rfl, by kernel_rfl⟩
theorem Q2z : TOK Tryz.prog 9 (.str) := ⟨by kernel_rfl, by kernel_rfl⟩
theorem Q1t : TOK Tryz.prog 22 (.slice 5 (.int .u8)) := ⟨by kernel_rfl, by kernel_rfl⟩
theorem Q1u : TOK Tryz.prog 25 (Zr) := ⟨by kernel_rfl, by kernel_rfl⟩
theorem Q1v : TOK Tryz.prog 31 (.slice 25 (Zr)) := ⟨by kernel_rfl, by kernel_rfl⟩
theorem Q1w : TOK Tryz.prog 33 (.slice 3 (.int .i64)) := ⟨by kernel_rfl, by kernel_rfl⟩
theorem Q1x : TOK Tryz.prog 35 (Zbh) := ⟨by kernel_rfl, by kernel_rfl⟩
theorem Q1y : TOK Tryz.prog 36 (.slice 135 (Zt)) := ⟨by kernel_rfl, by kernel_rfl⟩
theorem Q1z : TOK Tryz.prog 38 (Zy) := ⟨by kernel_rfl, by kernel_rfl⟩
theorem Q10 : TOK Tryz.prog 40 (Q4) := ⟨by kernel_rfl, by kernel_rfl⟩
theorem Q11 : TOK Tryz.prog 41 (.slice 138 (Zbb)) := ⟨by kernel_rfl, by kernel_rfl⟩
theorem Q12 : TOK Tryz.prog 43 (Xv) := ⟨by kernel_rfl, by kernel_rfl⟩
theorem Q13 : TOK Tryz.prog 45 (Qt) := ⟨by kernel_rfl, by kernel_rfl⟩
theorem Q14 : TOK Tryz.prog 47 (Jw) := ⟨by kernel_rfl, by kernel_rfl⟩
theorem Q15 : TOK Tryz.prog 49 (Kw) := ⟨by kernel_rfl, by kernel_rfl⟩
theorem Q16 : TOK Tryz.prog 51 (Z1) := ⟨by kernel_rfl, by kernel_rfl⟩
theorem Q17 : TOK Tryz.prog 54 (Zqf) := ⟨by kernel_rfl, by kernel_rfl⟩
theorem Q18 : TOK Tryz.prog 55 (.slice 51 (Z1)) := ⟨by kernel_rfl, by kernel_rfl⟩
theorem Q19 : TOK Tryz.prog 57 (Zi7) := ⟨by kernel_rfl, by kernel_rfl⟩
theorem Q2a : TOK Tryz.prog 59 (Q4) := ⟨by kernel_rfl, by kernel_rfl⟩
theorem Q2b : TOK Tryz.prog 60 (.slice 148 (Wz)) := ⟨by kernel_rfl, by kernel_rfl⟩
theorem Q2c : TOK Tryz.prog 62 (Zq) := ⟨by kernel_rfl, by kernel_rfl⟩
theorem Q2d : TOK Tryz.prog 64 (.slice 107 (Zbb)) := ⟨by kernel_rfl, by kernel_rfl⟩
theorem Q2e : TOK Tryz.prog 75 (.slice 9 (.str)) := ⟨by kernel_rfl, by kernel_rfl⟩
theorem Qz1 : TOK Tryz.prog 107 (Zbb) := ⟨by kernel_rfl, by kernel_rfl⟩
theorem Qz2 : TOK Tryz.prog 110 (Xg) := ⟨by kernel_rfl, by kernel_rfl⟩
theorem Qz3 : TOK Tryz.prog 133 (.arr 6 (.str)) := ⟨by kernel_rfl, by kernel_rfl⟩
theorem Qz4 : TOK Tryz.prog 135 (Zt) := ⟨by kernel_rfl, by kernel_rfl⟩
theorem Qz5 : TOK Tryz.prog 138 (Zbb) := ⟨by kernel_rfl, by kernel_rfl⟩
theorem Qz6 : TOK Tryz.prog 148 (Wz) := ⟨by kernel_rfl, by kernel_rfl⟩
theorem Qz7 : TOK Tryz.prog 155 (.int .u64) := ⟨by kernel_rfl, by kernel_rfl⟩
theorem Qz8 : TOK Tryz.prog 242 (Vg) := ⟨by kernel_rfl, by kernel_rfl⟩
theorem Qz9 : TOK Tryz.prog 311 (.slice 332 (Q6)) := ⟨by kernel_rfl, by kernel_rfl⟩
theorem Q0a : TOK Tryz.prog 332 (Q6) := ⟨by kernel_rfl, by kernel_rfl⟩
theorem Q1r : tab.ok Tryz.prog := (Xa Q2w (Xa Q2x (Xa Q2y (Xa Q2z (Xa Q1t (Xa Q1u (Xa Q1v (Xa Q1w (Xa Q1x (Xa Q1y (Xa Q1z (Xa Q10 (Xa Q11 (Xa Q12 (Xa Q13 (Xa Q14 (Xa Q15 (Xa Q16 (Xa Q17 (Xa Q18 (Xa Q19 (Xa Q2a (Xa Q2b (Xa Q2c (Xa Q2d (Xa Q2e (Xa Qz1 (Xa Qz2 (Xa Qz3 (Xa Qz4 (Xa Qz5 (Xa Qz6 (Xa Qz7 (Xa Qz8 (Xa Qz9 (Xa Q0a Qz0))))))))))))))))))))))))))))))))))))
noncomputable abbrev glob : Yn := Yn.vars Tryz.prog [("internal/strconv.uint64pow10", (· = (Go.Lib.pow10Tab.map fun z => Value.int .u64 z).toArray)), ("internal/bytealg.MaxLen", Qtz), ("strconv.ErrSyntax", Qyg)]
theorem Q02 : Qor Tryz.prog 25 (Zr) := Qor.of (by kernel_rfl) (by kernel_rfl) rfl (by decide)
theorem Qzc : Qor Tryz.prog 135 (Zt) := Qor.of (by kernel_rfl) (by kernel_rfl) rfl (by decide)
def Q2i : List Nat := [25, 135]
theorem Q03 : Qy3 Tryz.prog tab Q2i := (Qq7 Q02 rfl (Qq7 Qzc rfl Qzd))
@[reducible] def Q2o : Zi9 := { pp := [(82, 81)], er := [117] }
theorem Qzz : Q2o.ok Tryz.prog := Zi9.ok_of (by kernel_rfl) (by kernel_rfl)
@[reducible] def cfg (ln : List Nat) (Γ : Env) (ΓL : Z3o) (ΓB : Ztz) (ΓW : Zxf) : Cfg := { τ := tab, eq := fun e => Q2i.any (Nat.beq e), Γ := Γ, ΓL := ΓL, ΓB := ΓB, lent := ln, ΓW := ΓW, pt := Q2o }
theorem Qxd {gl : Yn} {ln : List Nat} {Γ : Env} {ΓL : Z3o} {ΓB : Ztz} {ΓW : Zxf} (hs : gl.soft = false) (h : Γ.ok Tryz.prog gl) (hL : ΓL.ok Tryz.prog gl) (hB : ΓB.ok Tryz.prog gl) (hW : ΓW.ok Tryz.prog) : (cfg ln Γ ΓL ΓB ΓW).ok Tryz.prog gl := ⟨Q1r, Q03, h, by kernel_rfl, hL, hB, hs, (fun h => by cases h), hW, Qzz⟩
theorem lf {ρ : Type} {C : Cfg} {n : Nat} {c : Code} {k : Exit → St → Option ρ} : Zbi C n c (.leaf : An ρ) k := Q5 c k
theorem hk {α β : Type} {f g : α → Option β} (h : ∀ x, f x = g x) (x : α) (r : β) (e : g x = some r) : f x = some r := (h x).trans e
abbrev okE (e : FnE) := Zl8 Tryz.prog glob e
abbrev okB (e : FnB) := Qhy Tryz.prog glob e
theorem ofE {e : FnE} {Γ : Env} {ΓB : Ztz} (h1 : Γ.ok Tryz.prog glob) (h2 : ΓB.ok Tryz.prog glob) {fn : Func} (hf : Tryz.prog.funcs[e.f]? = some fn) (hcall : ∀ args w, (callFunc e.f args).run Tryz.prog w = .ok (.enter e.f args) w) (A : An (Y6 e.res)) (hA : Zbi (cfg [] Γ [] ΓB []) fn.ntmps (Qas fn) A (fnK (cfg [] Γ [] ΓB []).τ e.res fn.results.toList))
  (hF : ∀ xs r, e.F xs = some r → Zbj (cfg [] Γ [] ΓB []) fn.ntmps (Qas fn) A (fnK (cfg [] Γ [] ΓB []).τ e.res fn.results.toList) (Qh4 e.args xs) = some r) (hb : fn.body = some (Qas fn) := by rfl) (hn : e.args.length ≤ fn.ntmps := by decide) : okE e := Zl8.of (Qxd rfl h1 Qq4 h2 Qq5) rfl hf hb hcall hn A hA hF
theorem ofB {e : FnB} {Γ : Env} {ΓB : Ztz} (L : List Nat) (h1 : Γ.ok Tryz.prog glob) (h2 : ΓB.ok Tryz.prog glob) {fn : Func} (hf : Tryz.prog.funcs[e.f]? = some fn) (hcall : ∀ args w, (callFunc e.f args).run Tryz.prog w = .ok (.enter e.f args) w) (A : An (Z68 e.res × Zqg e.args)) (hA : Zbi (cfg L Γ [] ΓB []) fn.ntmps (Qas fn) A (Qtc (cfg L Γ [] ΓB []).τ e.args e.res fn.results.toList))
  (hF : ∀ xs r, e.F xs = some r → Zbj (cfg L Γ [] ΓB []) fn.ntmps (Qas fn) A (Qtc (cfg L Γ [] ΓB []).τ e.args e.res fn.results.toList) (Qh5 e.args xs) = some r) (hb : fn.body = some (Qas fn) := by rfl) (hn : e.args.length ≤ fn.ntmps := by decide) (hlent : L = Zmb e.args 0 := by rfl) : okB e := Qhy.of (Qxd rfl h1 Qq4 h2 Qq5) rfl hlent hf hb hcall hn A hA hF
abbrev Qs7 : FnE := { f := 4, args := [.slice 5 (.int .u8)], res := [.bool], F := fun xs => Qke xs.1 }
theorem Qr4 : okE Qs7 :=
 ofE Zf Zd Tryz.func4 Tryz.call4 .leaf lf (hk fun _ => by kernel_rfl)
abbrev Qo6 : FnB := { f := 24, args := [.sh (.slice 5 (.int .u8))], res := .newb 110 (Xg), F := fun xs => Ze4 xs.1 }
theorem Zig : okB Qo6 :=
 ofB [] Zf Zd Tryz.func24 Tryz.call24 (.seq .leaf (.seq .leaf (.seq (.seq .leaf (.block (.loop Qhf (fun N v => Zlf N v.1 v.2.1 v.2.2.1) (fun v => Zml v.1 v.2.1 v.2.2.1) (fun K1 => .leaf)))) .leaf))) ⟨lf, lf, ⟨lf, fun _ => rfl, fun N => ⟨(fun v => by kernel_rfl), lf⟩⟩, lf⟩ (hk fun _ => by kernel_rfl)
abbrev Qmf : FnB := { f := 93, args := [.bx 110 (Xg) false], res := .vals [.int .i64], F := fun xs => Kv xs.1 }
theorem Zru : okB Qmf :=
 ofB [0] Zf Zd Tryz.func93 Tryz.call93 .leaf lf (hk fun _ => by kernel_rfl)
abbrev Qjd : FnB := { f := 39, args := [.bx 110 (Xg) false, .sh (.int .i64)], res := .vals [.int .i64], F := fun xs => Zv xs.1 xs.2.1 }
theorem Qh : okB Qjd :=
 ofB [0] Zf (Zn Zru Zd) Tryz.func39 Tryz.call39 .leaf lf (hk fun _ => by kernel_rfl)
abbrev Qbs : FnB := { f := 78, args := [.bx 110 (Xg) false, .sh (.slice 3 (.int .i64))], res := .vals [.int .i64], F := fun xs => Xf xs.1 xs.2.1 }
theorem Za1 : okB Qbs :=
 ofB [0] Zf (Zn Qh Zd) Tryz.func78 Tryz.call78 .leaf lf (hk fun _ => by kernel_rfl)
abbrev Qmh : FnB := { f := 41, args := [.bx 110 (Xg) false, .sh (.slice 9 (.str))], res := .vals [.str], F := fun xs => Zj2 xs.1 xs.2.1 }
theorem Zrv : okB Qmh :=
 ofB [0] Zf (Zn Qh Zd) Tryz.func41 Tryz.call41 .leaf lf (hk fun _ => by kernel_rfl)
abbrev Qmr : FnB := { f := 90, args := [.bx 110 (Xg) false, .sh (.int .i64)], res := .vals [.str], F := fun xs => Zex xs.1 xs.2.1 }
theorem Zjj : okB Qmr :=
 ofB [0] Zf (Zn Qh (Zn Zrv Zd)) Tryz.func90 Tryz.call90 (.seq .leaf (.seq .leaf (.seq (.seq .leaf (.block (.loop Qdu (fun N v => Zgz N v.1 v.2.1 v.2.2.1) (fun v => Zfn v.1 v.2.1 v.2.2.1) (fun K1 => .leaf)))) .leaf))) ⟨lf, lf, ⟨lf, fun _ => rfl, fun N => ⟨(fun v => by kernel_rfl), lf⟩⟩, lf⟩ (hk fun _ => by kernel_rfl)
abbrev Qmg : FnB := { f := 91, args := [.bx 110 (Xg) false, .sh (.int .i64)], res := .vals [.bool], F := fun xs => Yr xs.1 xs.2.1 }
theorem Zal : okB Qmg :=
 ofB [0] Zf (Zn Qh Zd) Tryz.func91 Tryz.call91 .leaf lf (hk fun _ => by kernel_rfl)
abbrev Zyt : FnE := { f := 44, args := [Zr], res := [.bool], F := fun xs => Qa xs.1 }
theorem Zdj : okE Zyt :=
 ofE Zf Zd Tryz.func44 Tryz.call44 (.seq .leaf (.seq (.seq .leaf (.block (.join Zu5 (fun v => Xi v.1) .leaf .leaf))) .leaf)) ⟨lf, ⟨lf, lf, (fun v => by kernel_rfl), lf⟩, lf⟩ (hk fun _ => by kernel_rfl)
abbrev Qmt : FnE := { f := 92, args := [Zr], res := [Zr], F := fun xs => Zg9 xs.1 }
theorem Zzm : okE Qmt :=
 ofE (Za Zdj Zf) Zd Tryz.func92 Tryz.call92 (.seq .leaf (.seq .leaf (.join Qdv (fun v => Zg1 v.1 v.2.1 v.2.2.1) .leaf (.seq (.seq .leaf (.block (.seq .leaf (.cond .leaf (.seq .leaf (.cond .leaf (.seq .leaf (.cond .leaf (.join Qdw (fun v => Zg2 v.1 v.2.1 v.2.2.1 v.2.2.2.1) .leaf .leaf))))))))) .leaf)))) ⟨lf, lf, lf, (fun v => by kernel_rfl), ⟨lf, lf, lf, lf, lf, lf, lf, lf, (fun v => by kernel_rfl), lf⟩, lf⟩ (hk fun _ => by kernel_rfl)
abbrev Qjm : FnB := { f := 38, args := [.bx 110 (Xg) false], res := .vals [Zr], F := fun xs => Zhv xs.1 }
theorem Zln : okB Qjm :=
 ofB [0] (Za Zzm Zf) (Zn Za1 (Zn Qh (Zn Zjj (Zn Zal Zd)))) Tryz.func38 Tryz.call38 .leaf lf (hk fun _ => by kernel_rfl)
abbrev Qo8 : FnB := { f := 23, args := [.bx 110 (Xg) false], res := .vals [Zr], F := fun xs => Zww xs.1 }
theorem Qm8 : okB Qo8 :=
 ofB [0] Zf (Zn Zln (Zn Qh (Zn Za1 Zd))) Tryz.func23 Tryz.call23 .leaf lf (hk fun _ => by kernel_rfl)
abbrev Zvj : FnE := { f := 5, args := [.slice 5 (.int .u8)], res := [Zr], F := fun xs => Zee xs.1 }
theorem Zuf : okE Zvj :=
 ofE Zf (Zn Zig (Zn Qm8 Zd)) Tryz.func5 Tryz.call5 .leaf lf (hk fun _ => by kernel_rfl)
abbrev Qfh : FnE := { f := 27, args := [.int .i64], res := [.str], F := fun xs => Zez xs.1 }
theorem Zoc : okE Qfh :=
 ofE Zf Zd Tryz.func27 Tryz.call27 .leaf lf (hk fun _ => by kernel_rfl)
abbrev Zyn : FnE := { f := 28, args := [Zr], res := [.bool], F := fun xs => Zhf xs.1 }
theorem Zn7 : okE Zyn :=
 ofE Zf Zd Tryz.func28 Tryz.call28 (.seq .leaf (.seq (.seq .leaf (.block (.join Zt9 (fun v => Jn v.1) .leaf .leaf))) .leaf)) ⟨lf, ⟨lf, lf, (fun v => by kernel_rfl), lf⟩, lf⟩ (hk fun _ => by kernel_rfl)
abbrev Qq0 : FnE := { f := 79, args := [Zr], res := [Zr], F := fun xs => Qb2 xs.1 }
theorem Qp0 : okE Qq0 :=
 ofE (Za Zn7 Zf) Zd Tryz.func79 Tryz.call79 (.seq .leaf (.seq .leaf (.join Qj3 (fun v => Zvz v.1 v.2.1 v.2.2.1) .leaf (.seq (.seq .leaf (.block (.seq .leaf (.cond .leaf (.seq .leaf (.cond .leaf (.seq .leaf (.cond .leaf (.join Qj4 (fun v => Zv0 v.1 v.2.1 v.2.2.1 v.2.2.2.1) .leaf .leaf))))))))) .leaf)))) ⟨lf, lf, lf, (fun v => by kernel_rfl), ⟨lf, lf, lf, lf, lf, lf, lf, lf, (fun v => by kernel_rfl), lf⟩, lf⟩ (hk fun _ => by kernel_rfl)
abbrev Ql5 : FnE := { f := 87, args := [.int .i64, .int .i64, .int .i64], res := [.bool], F := fun xs => Z3 xs.1 xs.2.1 xs.2.2.1 }
theorem Xd : okE Ql5 :=
 ofE Zf Zd Tryz.func87 Tryz.call87 .leaf lf (hk fun _ => by kernel_rfl)
abbrev Ql2 : FnE := { f := 80, args := [.int .i64], res := [.bool], F := fun xs => Ye xs.1 }
theorem Zck : okE Ql2 :=
 ofE (Za Xd Zf) Zd Tryz.func80 Tryz.call80 .leaf lf (hk fun _ => by kernel_rfl)
abbrev Qir : FnE := { f := 25, args := [Zr], res := [.bool], F := fun xs => Zm4 xs.1 }
theorem Zw3 : okE Qir :=
 ofE (Za Zoc (Za Qp0 (Za Zck Zf))) Zd Tryz.func25 Tryz.call25 .leaf lf (hk fun _ => by kernel_rfl)
abbrev Qiu : FnE := { f := 26, args := [Zr], res := [.bool], F := fun xs => Zvy xs.1 }
theorem Qgy : okE Qiu :=
 ofE Zf Zd Tryz.func26 Tryz.call26 .leaf lf (hk fun _ => by kernel_rfl)
abbrev Qjt : FnE := { f := 81, args := [.int .i64], res := [.str], F := fun xs => Zn4 xs.1 }
theorem Zxb : Zl8 Tryz.prog glob Qjt :=
 Zl8.intStr Tryz.call81 fun n w hg h0 h1 => (Tryz.strconv_Itoa n h0 h1 w (Yn.vars_eq hg 0 (by decide) rfl rfl)).mono fun e w' ⟨he, k, os, hw⟩ => ⟨he, hw ▸ Go.Lib.below_grow _ _ (Nat.le_refl _) k os⟩
abbrev Qay : FnE := { f := 29, args := [.int .i64], res := [.str], F := fun xs => Ql xs.1 }
theorem Zd6 : okE Qay :=
 ofE (Za Zxb Zf) Zd Tryz.func29 Tryz.call29 .leaf lf (hk fun _ => by kernel_rfl)
abbrev Qax : FnE := { f := 30, args := [.str], res := [.str], F := fun xs => Zm3 xs.1 }
theorem Z8x : okE Qax :=
 ofE Zf Zd Tryz.func30 Tryz.call30 (.seq .leaf (.seq .leaf (.seq (.seq .leaf (.block (.loop Z17 (fun N v => Zd5 N v.1 v.2.1 v.2.2.1) (fun v => Zhd v.1 v.2.1 v.2.2.1) (fun K1 => .leaf)))) .leaf))) ⟨lf, lf, ⟨lf, fun _ => rfl, fun N => ⟨(fun v => by kernel_rfl), lf⟩⟩, lf⟩ (hk fun _ => by kernel_rfl)
abbrev Qqz : FnE := { f := 31, args := [.bool, .str, .str], res := [.str], F := fun xs => Zuc xs.1 xs.2.1 xs.2.2.1 }
theorem Z81 : okE Qqz :=
 ofE Zf Zd Tryz.func31 Tryz.call31 .leaf lf (hk fun _ => by kernel_rfl)
abbrev Qju : FnE := { f := 32, args := [.slice 9 (.str), .str], res := [.str], F := fun xs => Vy xs.1 xs.2.1 }
theorem Zp8 : Zl8 Tryz.prog glob Qju :=
 Zl8.join Tryz.call32 (fun _ => rfl) (fun a c sep w => Tryz.strings_Join_none a c sep w) (fun bk o c xs sep w h1 h2 h3 h4 h5 => Tryz.strings_Join bk o c xs sep w h1 h2 h3 h4 h5)
abbrev Z3x : FnE := { f := 6, args := [Zr], res := [.str], F := fun xs => J8 xs.1 }
theorem Zks : okE Z3x :=
 ofE (Za Zw3 (Za Qgy (Za Zoc (Za Zn7 (Za Zd6 (Za Z8x (Za Z81 (Za Zp8 Zf)))))))) Zd Tryz.func6 Tryz.call6 (.seq .leaf (.seq .leaf (.seq .leaf (.join Zxi (fun v => Ze9 v.1 v.2.1) .leaf (.join Zxj (fun v => Ja v.1 v.2.1) .leaf (.join Zxk (fun v => Zbk v.1) .leaf .leaf)))))) ⟨lf, lf, lf, lf, (fun v => by kernel_rfl), lf, (fun v => by kernel_rfl), lf, (fun v => by kernel_rfl), lf⟩ (hk fun _ => by kernel_rfl)
abbrev Qgq : FnE := { f := 33, args := [.str, .str], res := [.slice 9 (.str)], F := fun xs => Ztv xs.1 xs.2.1 }
theorem Qc5 : Zl8 Tryz.prog glob Qgq :=
 Zl8.split Tryz.call33 (by decide) (fun w hg => Yn.vars_int (b := 0) hg 1 (by decide) rfl rfl (by kernel_rfl))
  (fun s p k w h1 h2 h3 => Tryz.strings_Split s p k w h1 h2 h3)
abbrev Ql3 : FnE := { f := 34, args := [.str], res := [.int .i64], F := fun xs => Zsk xs.1 }
theorem Qkm : okE Ql3 :=
 ofE (Za Zoc Zf) Zd Tryz.func34 Tryz.call34 (.seq .leaf (.seq (.seq .leaf (.block (.loop Qb1 (fun N v => Vn N v.1 v.2.1) (fun v => Zqh v.1 v.2.1) (fun K1 => .leaf)))) .leaf)) ⟨lf, ⟨lf, fun _ => rfl, fun N => ⟨(fun v => by kernel_rfl), lf⟩⟩, lf⟩ (hk fun _ => by kernel_rfl)
abbrev Qjs : FnE := { f := 86, args := [.str], res := [.int .i64, .err], F := fun xs => Zwx xs.1 }
theorem Qhc : Zl8 Tryz.prog glob Qjs :=
 Zl8.atoi Tryz.call86 (fun w hg => Yn.vars_err hg 2 (by decide) rfl rfl) (fun s n hl h w => Tryz.strconv_Atoi s n hl h w)
  (fun s hl h tp p w hv => (Tryz.strconv_Atoi_err_var s hl h tp p w hv).mono fun e w' ⟨N, h1, _, _, h2⟩ => ⟨_, N, h1, h2⟩)
abbrev Qfi : FnE := { f := 35, args := [.str], res := [.int .i64, .bool], F := fun xs => Qu xs.1 }
theorem Qcf : okE Qfi :=
 ofE (Za Qhc (Za Zxb (Za Xd Zf))) Zd Tryz.func35 Tryz.call35 .leaf lf (hk fun _ => by kernel_rfl)
abbrev Zyv : FnE := { f := 37, args := [.str, .str], res := [.str], F := fun xs => Yy xs.1 xs.2.1 }
theorem Zxt : Zl8 Tryz.prog glob Zyv :=
 Zl8.str2str Tryz.call37 (fun s p w => Tryz.strings_TrimPrefix s p w)
abbrev Qfm : FnE := { f := 88, args := [.int .u8], res := [.int .i64], F := fun xs => Ze0 xs.1 }
theorem Qcj : okE Qfm :=
 ofE Zf Zd Tryz.func88 Tryz.call88 .leaf lf (hk fun _ => by kernel_rfl)
abbrev Qaw : FnE := { f := 36, args := [.str], res := [.str, .bool], F := fun xs => Js xs.1 }
theorem Z8w : okE Qaw :=
 ofE (Za Qcj Zf) Zd Tryz.func36 Tryz.call36 (.seq .leaf (.seq .leaf (.seq .leaf (.seq (.seq .leaf (.block (.loop Z16 (fun N v => Zaz N v.1 v.2.1 v.2.2.1) (fun v => Zhc v.1 v.2.1 v.2.2.1) (fun K1 => .leaf)))) .leaf)))) ⟨lf, lf, lf, ⟨lf, fun _ => rfl, fun N => ⟨(fun v => by kernel_rfl), lf⟩⟩, lf⟩ (hk fun _ => by kernel_rfl)
abbrev Z7e : FnE := { f := 7, args := [.str], res := [Zr, .bool], F := fun xs => Zdy xs.1 }
theorem Z45 : okE Z7e :=
 ofE (Za Qc5 (Za Qkm (Za Qcf (Za Zxt (Za Z8w (Za Zks Zf)))))) Zd Tryz.func7 Tryz.call7 (.seq .leaf (.seq .leaf (.seq .leaf (.seq .leaf (.seq .leaf (.seq .leaf (.seq (.seq .leaf (.block (.unroll [0, 2, 5, 7, 47, 48, 49, 77, 78, 79, 98, 99, 100, 103, 104, 105, 108, 109, 110, 111, 117, 118, 119, 120] 4 (fun _ => .leaf)))) (.join Zy1 (fun v => Z0 v.1 v.2.1 v.2.2.1 v.2.2.2.1) .leaf .leaf)))))))) ⟨lf, lf, lf, lf, lf, lf, ⟨lf, (fun i _ => lf)⟩, lf, (fun v => by kernel_rfl), lf⟩ (hk fun _ => by kernel_rfl)
abbrev Qf1 : FnE := { f := 43, args := [.int .i64], res := [.str], F := fun xs => Jv xs.1 }
theorem Zog : okE Qf1 :=
 ofE Zf Zd Tryz.func43 Tryz.call43 .leaf lf (hk fun _ => by kernel_rfl)
abbrev Qq1 : FnE := { f := 100, args := [.int .i64, .int .i64, .int .i64], res := [.bool], F := fun xs => Z4 xs.1 xs.2.1 xs.2.2.1 }
theorem Xh : okE Qq1 :=
 ofE Zf Zd Tryz.func100 Tryz.call100 .leaf lf (hk fun _ => by kernel_rfl)
abbrev Qms : FnE := { f := 99, args := [.int .i64], res := [.bool], F := fun xs => Qe xs.1 }
theorem Qw : okE Qms :=
 ofE (Za Xh Zf) Zd Tryz.func99 Tryz.call99 .leaf lf (hk fun _ => by kernel_rfl)
abbrev Qiy : FnE := { f := 51, args := [Zr], res := [.bool], F := fun xs => Vt xs.1 }
theorem Zbe : okE Qiy :=
 ofE (Za Zog (Za Zzm (Za Qw Zf))) Zd Tryz.func51 Tryz.call51 (.seq .leaf (.seq .leaf (.seq (.seq .leaf (.block (.seq .leaf (.cond .leaf (.join Z9w (fun v => Zlw v.1 v.2.1) .leaf .leaf))))) .leaf))) ⟨lf, lf, ⟨lf, lf, lf, lf, (fun v => by kernel_rfl), lf⟩, lf⟩ (hk fun _ => by kernel_rfl)
abbrev Qgn : FnE := { f := 52, args := [.int .i64], res := [.bool], F := fun xs => Ze6 xs.1 }
theorem Qc2 : okE Qgn :=
 ofE (Za Xh Zf) Zd Tryz.func52 Tryz.call52 .leaf lf (hk fun _ => by kernel_rfl)
abbrev Qa6 : FnE := { f := 53, args := [.int .i64], res := [.str], F := fun xs => Z7 xs.1 }
theorem Za0 : okE Qa6 :=
 ofE Zf Zd Tryz.func53 Tryz.call53 (.seq .leaf (.seq .leaf (.seq .leaf (.seq .leaf (.seq (.block (.loop Z2p (fun N v => Jf N v.1 v.2.1 v.2.2.1) (fun v => Zhn v.1 v.2.1 v.2.2.1) (fun K1 => (.seq .leaf (.block (.seq .leaf (.join Z2o (fun v => Za6 K1 v.1 v.2.1 v.2.2.1 v.2.2.2.1) .leaf .leaf))))))) .leaf))))) ⟨lf, lf, lf, lf, ⟨fun _ => rfl, fun N => ⟨(fun v => by kernel_rfl), lf, lf, lf, (fun v => by kernel_rfl), lf⟩⟩, lf⟩ (hk fun _ => by kernel_rfl)
abbrev Qje : FnE := { f := 101, args := [.int .i64], res := [.int .u8], F := fun xs => Zet xs.1 }
theorem Zw8 : okE Qje :=
 ofE Zf Zd Tryz.func101 Tryz.call101 .leaf lf (hk fun _ => by kernel_rfl)
abbrev Qa5 : FnE := { f := 54, args := [.str], res := [.str], F := fun xs => Zns xs.1 }
theorem Z84 : okE Qa5 :=
 ofE (Za Zw8 Zf) Zd Tryz.func54 Tryz.call54 (.seq .leaf (.seq .leaf (.seq (.seq .leaf (.block (.loop Z2n (fun N v => Zef N v.1 v.2.1 v.2.2.1) (fun v => Zhl v.1 v.2.1 v.2.2.1) (fun K1 => .leaf)))) .leaf))) ⟨lf, lf, ⟨lf, fun _ => rfl, fun N => ⟨(fun v => by kernel_rfl), lf⟩⟩, lf⟩ (hk fun _ => by kernel_rfl)
abbrev Qmn : FnE := { f := 55, args := [.bool], res := [.str], F := fun xs => Zta xs.1 }
theorem Qkw : okE Qmn :=
 ofE Zf Zd Tryz.func55 Tryz.call55 .leaf lf (hk fun _ => by kernel_rfl)
abbrev Qmo : FnE := { f := 56, args := [.bool], res := [.str], F := fun xs => Ztb xs.1 }
theorem Qkx : okE Qmo :=
 ofE Zf Zd Tryz.func56 Tryz.call56 .leaf lf (hk fun _ => by kernel_rfl)
abbrev Z35 : FnE := { f := 14, args := [Zr], res := [.str], F := fun xs => Xr xs.1 }
theorem Zfa : okE Z35 :=
 ofE (Za Zbe (Za Qc2 (Za Zog (Za Za0 (Za Z84 (Za Qkw (Za Qkx Zf))))))) Zd Tryz.func14 Tryz.call14 (.seq .leaf (.seq .leaf (.seq .leaf (.seq (.seq .leaf (.block (.seq .leaf (.cond .leaf (.seq .leaf (.cond .leaf (.seq .leaf (.cond .leaf (.join Zx0 (fun v => V0 v.1 v.2.1 v.2.2.1 v.2.2.2.1) .leaf (.cond .leaf (.join Zx1 (fun v => V1 v.1 v.2.1 v.2.2.1) .leaf .leaf))))))))))) .leaf)))) ⟨lf, lf, lf, ⟨lf, lf, lf, lf, lf, lf, lf, lf, (fun v => by kernel_rfl), lf, lf, (fun v => by kernel_rfl), lf⟩, lf⟩ (hk fun _ => by kernel_rfl)
abbrev Qmi : FnB := { f := 94, args := [.bx 110 (Xg) false, .sh (.int .i64)], res := .vals [.str], F := fun xs => Zs6 xs.1 xs.2.1 }
theorem Qks : okB Qmi :=
 ofB [0] Zf (Zn Qh (Zn Zru Zd)) Tryz.func94 Tryz.call94 (.seq .leaf (.seq .leaf (.seq .leaf (.seq (.seq .leaf (.block (.loop Qdr (fun N v => Zau N v.1 v.2.1 v.2.2.1 v.2.2.2.1) (fun v => Zkz v.1 v.2.1 v.2.2.1 v.2.2.2.1) (fun K1 => (.seq .leaf (.seq (.block (.seq .leaf (.join Qdp (fun v => Zj3 K1 v.1 v.2.1 v.2.2.1 v.2.2.2.1 v.2.2.2.2.1) .leaf (.join Qdq (fun v => Zj4 K1 v.1 v.2.1 v.2.2.1 v.2.2.2.1 v.2.2.2.2.1) .leaf .leaf)))) .leaf)))))) .leaf)))) ⟨lf, lf, lf, ⟨lf, fun _ => rfl, fun N => ⟨(fun v => by kernel_rfl), lf, ⟨lf, lf, (fun v => by kernel_rfl), lf, (fun v => by kernel_rfl), lf⟩, lf⟩⟩, lf⟩ (hk fun _ => by kernel_rfl)
abbrev Qjf : FnB := { f := 40, args := [.bx 110 (Xg) false, .sh (.str)], res := .vals [.str], F := fun xs => Zq6 xs.1 xs.2.1 }
theorem Qg6 : okB Qjf :=
 ofB [0] Zf (Zn Qks (Zn Qh (Zn Zru Zd))) Tryz.func40 Tryz.call40 .leaf lf (hk fun _ => by kernel_rfl)
abbrev Zxh : FnE := { f := 8, args := [.slice 5 (.int .u8)], res := [.str], F := fun xs => Zfc xs.1 }
theorem Zv4 : okE Zxh :=
 ofE (Za Zfa Zf) (Zn Zig (Zn Zln (Zn Qh (Zn Qg6 (Zn Zrv Zd))))) Tryz.func8 Tryz.call8 .leaf lf (hk fun _ => by kernel_rfl)
abbrev Qmd : FnE := { f := 42, args := [.str, .int .u8], res := [.slice 9 (.str)], F := fun xs => Zjw xs.1 xs.2.1 }
theorem Zzl : okE Qmd :=
 ofE Zf Zd Tryz.func42 Tryz.call42 (.seq .leaf (.seq .leaf (.seq .leaf (.seq (.seq .leaf (.block (.loop Qdo (fun N v => Vw N v.1 v.2.1 v.2.2.1 v.2.2.2.1 v.2.2.2.2.1) (fun v => Zfm v.1 v.2.1 v.2.2.1 v.2.2.2.1 v.2.2.2.2.1) (fun K1 => (.seq .leaf (.join Qdn (fun v => Zc9 K1 v.1 v.2.1 v.2.2.1 v.2.2.2.1 v.2.2.2.2.1) .leaf .leaf)))))) .leaf)))) ⟨lf, lf, lf, ⟨lf, fun _ => rfl, fun N => ⟨(fun v => by kernel_rfl), lf, lf, (fun v => by kernel_rfl), lf⟩⟩, lf⟩ (hk fun _ => by kernel_rfl)
abbrev Qf8 : FnE := { f := 140, args := [.str], res := [.int .i64, .bool], F := fun xs => Ze3 xs.1 }
theorem Qct : okE Qf8 :=
 ofE (Za Za0 Zf) Zd Tryz.func140 Tryz.call140 (.seq .leaf (.seq .leaf (.seq .leaf (.seq (.seq .leaf (.block (.loop Z6k (fun N v => Zcc N v.1 v.2.1 v.2.2.1 v.2.2.2.1) (fun v => Ziu v.1 v.2.1 v.2.2.1 v.2.2.2.1) (fun K1 => (.seq .leaf (.join Z6i (fun v => Zgl K1 v.1 v.2.1 v.2.2.1 v.2.2.2.1) .leaf .leaf)))))) (.join Z6j (fun v => K7 v.1 v.2.1 v.2.2.1) .leaf .leaf))))) ⟨lf, lf, lf, ⟨lf, fun _ => rfl, fun N => ⟨(fun v => by kernel_rfl), lf, lf, (fun v => by kernel_rfl), lf⟩⟩, lf, (fun v => by kernel_rfl), lf⟩ (hk fun _ => by kernel_rfl)
abbrev Qml : FnE := { f := 95, args := [.str], res := [.int .i64], F := fun xs => Zs9 xs.1 }
theorem Qkv : okE Qml :=
 ofE (Za Qct Zf) Zd Tryz.func95 Tryz.call95 .leaf lf (hk fun _ => by kernel_rfl)
abbrev Qo7 : FnE := { f := 45, args := [.slice 9 (.str), .int .i64], res := [.int .i64], F := fun xs => X6 xs.1 xs.2.1 }
theorem Qm7 : okE Qo7 :=
 ofE (Za Qkv Zf) Zd Tryz.func45 Tryz.call45 .leaf lf (hk fun _ => by kernel_rfl)
abbrev Qbr : FnE := { f := 96, args := [.int .u8], res := [.int .i64], F := fun xs => Zj1 xs.1 }
theorem Z9e : okE Qbr :=
 ofE (Za Zw8 Zf) Zd Tryz.func96 Tryz.call96 (.seq .leaf (.seq (.seq .leaf (.block (.loop Z23 (fun N v => Jj N v.1 v.2.1) (fun v => Zhu v.1 v.2.1) (fun K1 => .leaf)))) .leaf)) ⟨lf, ⟨lf, fun _ => rfl, fun N => ⟨(fun v => by kernel_rfl), lf⟩⟩, lf⟩ (hk fun _ => by kernel_rfl)
abbrev Qa4 : FnE := { f := 46, args := [.str], res := [.str, .bool], F := fun xs => Znr xs.1 }
theorem Z83 : okE Qa4 :=
 ofE (Za Z9e Zf) Zd Tryz.func46 Tryz.call46 (.seq .leaf (.seq .leaf (.seq .leaf (.seq (.seq .leaf (.block (.loop Z2m (fun N v => Za5 N v.1 v.2.1 v.2.2.1) (fun v => Zhk v.1 v.2.1 v.2.2.1) (fun K1 => .leaf)))) .leaf)))) ⟨lf, lf, lf, ⟨lf, fun _ => rfl, fun N => ⟨(fun v => by kernel_rfl), lf⟩⟩, lf⟩ (hk fun _ => by kernel_rfl)
abbrev Z73 : FnE := { f := 9, args := [.str], res := [Zr, .bool], F := fun xs => Zh2 xs.1 }
theorem Z5m : okE Z73 :=
 ofE (Za Zzl (Za Zog (Za Zdj (Za Qm7 (Za Z83 (Za Zfa Zf)))))) Zd Tryz.func9 Tryz.call9 (.seq .leaf (.seq .leaf (.seq .leaf (.seq (.seq .leaf (.block (.loop Z0r (fun N v => Ku N v.1 v.2.1 v.2.2.1 v.2.2.2.1 v.2.2.2.2.1) (fun v => Zgk v.1 v.2.1 v.2.2.1 v.2.2.2.1 v.2.2.2.2.1) (fun K1 => (.seq .leaf (.join Z0l (fun v => Zhs K1 v.1 v.2.1 v.2.2.1 v.2.2.2.1 v.2.2.2.2.1) .leaf .leaf)))))) (.join Z0m (fun v => Qs v.1 v.2.1 v.2.2.1 v.2.2.2.1) .leaf (.join Z0n (fun v => Yv v.1 v.2.1 v.2.2.1) (.seq .leaf (.block (.seq .leaf (.cond .leaf (.seq .leaf (.cond .leaf (.seq .leaf (.cond (.seq .leaf (.join Z0o (fun v => Zc7 v.1 v.2.1 v.2.2.1 v.2.2.2.1) .leaf .leaf)) (.join Z0p (fun v => Zmj v.1 v.2.1 v.2.2.1 v.2.2.2.1 v.2.2.2.2.1 v.2.2.2.2.2.1) .leaf (.cond .leaf (.join Z0q (fun v => Zmk v.1 v.2.1 v.2.2.1 v.2.2.2.1 v.2.2.2.2.1) .leaf .leaf))))))))))) .leaf)))))) ⟨lf, lf, lf, ⟨lf, fun _ => rfl, fun N => ⟨(fun v => by kernel_rfl), lf, lf, (fun v => by kernel_rfl), lf⟩⟩, lf, (fun v => by kernel_rfl), ⟨lf, lf, lf, lf, lf, lf, ⟨lf, lf, (fun v => by kernel_rfl), lf⟩, lf, (fun v => by kernel_rfl), lf, lf, (fun v => by kernel_rfl), lf⟩, (fun v => by kernel_rfl), lf⟩ (hk fun _ => by kernel_rfl)
abbrev Qgo : FnB := { f := 47, args := [.bx 110 (Xg) false], res := .vals [.slice 25 (Zr)], F := fun xs => Ztu xs.1 }
theorem Qc3 : okB Qgo :=
 ofB [0] Zf (Zn Qh (Zn Zln Zd)) Tryz.func47 Tryz.call47 (.seq .leaf (.seq .leaf (.seq (.seq .leaf (.block (.loop Z6q (fun N v => Zg0 N v.1 v.2.1 v.2.2.1) (fun v => Zix v.1 v.2.1 v.2.2.1) (fun K1 => .leaf)))) .leaf))) ⟨lf, lf, ⟨lf, fun _ => rfl, fun N => ⟨(fun v => by kernel_rfl), lf⟩⟩, lf⟩ (hk fun _ => by kernel_rfl)
abbrev Zt2 : FnE := { f := 10, args := [.slice 5 (.int .u8)], res := [.slice 25 (Zr)], F := fun xs => Zdm xs.1 }
theorem Ztq : okE Zt2 :=
 ofE Zf (Zn Zig (Zn Qc3 Zd)) Tryz.func10 Tryz.call10 .leaf lf (hk fun _ => by kernel_rfl)
abbrev Z31 : FnE := { f := 188, args := [], res := [Zqf], F := fun xs => Zoj }
theorem Z2a : okE Z31 :=
 ofE Zf Zd Tryz.func188 Tryz.call188 .leaf lf (hk fun _ => by kernel_rfl)
abbrev Qi4 : FnB := { f := 142, args := [.bx 110 (Xg) false], res := .vals [Zqf], F := fun xs => Zer xs.1 }
theorem Zw5 : okB Qi4 :=
 ofB [0] (Za Z2a Zf) (Zn Qh Zd) Tryz.func142 Tryz.call142 .leaf lf (hk fun _ => by kernel_rfl)
abbrev Qjo : FnE := { f := 168, args := [.int .i64], res := [.bool], F := fun xs => Zaf xs.1 }
theorem Zp5 : okE Qjo :=
 ofE Zf Zd Tryz.func168 Tryz.call168 .leaf lf (hk fun _ => by kernel_rfl)
abbrev Ql7 : FnE := { f := 123, args := [Zqf], res := [.bool], F := fun xs => Zas xs.1 }
theorem Zrr : okE Ql7 :=
 ofE (Za Zp5 (Za Xh Zf)) Zd Tryz.func123 Tryz.call123 .leaf lf (hk fun _ => by kernel_rfl)
abbrev Zvi : FnE := { f := 181, args := [], res := [Kw], F := fun xs => Ve }
theorem Zmr : okE Zvi :=
 ofE Zf Zd Tryz.func181 Tryz.call181 .leaf lf (hk fun _ => by kernel_rfl)
abbrev Z4a : FnE := { f := 182, args := [], res := [Qt], F := fun xs => Zkh }
theorem Zql : okE Z4a :=
 ofE Zf Zd Tryz.func182 Tryz.call182 .leaf lf (hk fun _ => by kernel_rfl)
abbrev Qiz : FnE := { f := 226, args := [.int .i64], res := [.bool], F := fun xs => Zad xs.1 }
theorem Zlm : okE Qiz :=
 ofE (Za Qw Zf) Zd Tryz.func226 Tryz.call226 .leaf lf (hk fun _ => by kernel_rfl)
abbrev Z7y : FnE := { f := 273, args := [.int .i64], res := [.bool], F := fun xs => Zh1 xs.1 }
theorem Z5h : okE Z7y :=
 ofE (Za Qw Zf) Zd Tryz.func273 Tryz.call273 .leaf lf (hk fun _ => by kernel_rfl)
abbrev Qo5 : FnE := { f := 227, args := [.bool, .int .i64], res := [.bool], F := fun xs => Zhp xs.1 xs.2.1 }
theorem Zoy : okE Qo5 :=
 ofE (Za Qw (Za Z5h Zf)) Zd Tryz.func227 Tryz.call227 .leaf lf (hk fun _ => by kernel_rfl)
abbrev Qa3 : FnE := { f := 183, args := [.bool, .int .i64], res := [.bool], F := fun xs => Zco xs.1 xs.2.1 }
theorem Znd : okE Qa3 :=
 ofE (Za Qw (Za Zlm (Za Zoy Zf))) Zd Tryz.func183 Tryz.call183 .leaf lf (hk fun _ => by kernel_rfl)
abbrev Z1t : FnE := { f := 184, args := [.bool, .int .i64], res := [.bool], F := fun xs => Je xs.1 xs.2.1 }
theorem Zd7 : okE Z1t :=
 ofE (Za Qw (Za Zlm (Za Zoy Zf))) Zd Tryz.func184 Tryz.call184 .leaf lf (hk fun _ => by kernel_rfl)
abbrev Qi2 : FnE := { f := 228, args := [.int .i64], res := [Zbh, .bool], F := fun xs => Zq1 xs.1 }
theorem Qg2 : okE Qi2 :=
 ofE (Za Zp5 Zf) Zd Tryz.func228 Tryz.call228 .leaf lf (hk fun _ => by kernel_rfl)
abbrev Qbd : FnE := { f := 185, args := [.int .i64], res := [Zy, .bool], F := fun xs => Zc2 xs.1 }
theorem Zss : okE Qbd :=
 ofE (Za Qg2 Zf) Zd Tryz.func185 Tryz.call185 .leaf lf (hk fun _ => by kernel_rfl)
abbrev Qbc : FnE := { f := 186, args := [.int .i64], res := [Q4, .bool], F := fun xs => Zge xs.1 }
theorem Zsr : okE Qbc :=
 ofE (Za Qw Zf) Zd Tryz.func186 Tryz.call186 .leaf lf (hk fun _ => by kernel_rfl)
abbrev Qbf : FnE := { f := 187, args := [.int .i64, .int .i64], res := [Jw, .bool], F := fun xs => Zgf xs.1 xs.2.1 }
theorem Zst : okE Qbf :=
 ofE (Za Xh Zf) Zd Tryz.func187 Tryz.call187 .leaf lf (hk fun _ => by kernel_rfl)
abbrev Qbe : FnE := { f := 141, args := [.bool, .int .i64, Zqf, Zqf], res := [Z1, .bool], F := fun xs => Vu xs.1 xs.2.1 xs.2.2.1 xs.2.2.2.1 }
theorem Znh : okE Qbe :=
 ofE (Za Qw (Za Zrr (Za Zmr (Za Zql (Za Znd (Za Zd7 (Za Zss (Za Zsr (Za Zst Zf))))))))) Zd Tryz.func141 Tryz.call141 .leaf lf (hk fun _ => by kernel_rfl)
abbrev Qmw : FnE := { f := 314, args := [Zbh], res := [Zbh], F := fun xs => Zmv xs.1 }
theorem Zr0 : okE Qmw :=
 ofE Zf Zd Tryz.func314 Tryz.call314 .leaf lf (hk fun _ => by kernel_rfl)
abbrev Qmp : FnE := { f := 212, args := [.slice 135 (Zt)], res := [.slice 135 (Zt)], F := fun xs => Zg8 xs.1 }
theorem Zrx : okE Qmp :=
 ofE Zf Zd Tryz.func212 Tryz.call212 .leaf lf (hk fun _ => by kernel_rfl)
abbrev Qmx : FnE := { f := 274, args := [Zy], res := [Zy], F := fun xs => Zaw xs.1 }
theorem Zam : okE Qmx :=
 ofE (Za Zr0 (Za Zrx Zf)) Zd Tryz.func274 Tryz.call274 .leaf lf (hk fun _ => by kernel_rfl)
abbrev Qma : FnE := { f := 155, args := [Zbh], res := [.bool], F := fun xs => Zat xs.1 }
theorem Znf : okE Qma :=
 ofE (Za Zp5 (Za Xh Zf)) Zd Tryz.func155 Tryz.call155 (.seq .leaf (.seq .leaf (.seq (.seq .leaf (.block (.loop Qdl (fun N v => Zcx N v.1 v.2.1) (fun v => V3 v.1 v.2.1) (fun K1 => .leaf)))) .leaf))) ⟨lf, lf, ⟨lf, fun _ => rfl, fun N => ⟨(fun v => by kernel_rfl), lf⟩⟩, lf⟩ (hk fun _ => by kernel_rfl)
abbrev Qmq : FnE := { f := 211, args := [Zt], res := [.bool], F := fun xs => Zpu xs.1 }
theorem Zry : okE Qmq :=
 ofE Zf Zd Tryz.func211 Tryz.call211 .leaf lf (hk fun _ => by kernel_rfl)
abbrev Qfx : FnE := { f := 156, args := [.slice 135 (Zt)], res := [.bool], F := fun xs => Y4 xs.1 }
theorem Zb8 : okE Qfx :=
 ofE (Za Zry Zf) Zd Tryz.func156 Tryz.call156 (.seq .leaf (.seq (.seq .leaf (.block (.loop Z6c (fun N v => Vf N v.1 v.2.1) (fun v => Wu v.1 v.2.1) (fun K1 => .leaf)))) .leaf)) ⟨lf, ⟨lf, fun _ => rfl, fun N => ⟨(fun v => by kernel_rfl), lf⟩⟩, lf⟩ (hk fun _ => by kernel_rfl)
abbrev Qfq : FnE := { f := 157, args := [.slice 135 (Zt), Zt], res := [.slice 135 (Zt)], F := fun xs => Vi xs.1 xs.2.1 }
theorem Zb7 : okE Qfq :=
 ofE (Za Zb8 (Za Zry (Za Zrx Zf))) Zd Tryz.func157 Tryz.call157 (.seq .leaf (.seq .leaf (.seq .leaf (.seq .leaf (.seq (.seq .leaf (.block (.loop Z57 (fun N v => X8 N v.1 v.2.1 v.2.2.1 v.2.2.2.1 v.2.2.2.2.1) (fun v => Zdl v.1 v.2.1 v.2.2.1 v.2.2.2.1 v.2.2.2.2.1) (fun K1 => (.seq .leaf (.join Z55 (fun v => Vc K1 v.1 v.2.1 v.2.2.1 v.2.2.2.1 v.2.2.2.2.1) (.block (.block (.seq .leaf (.cond .leaf (.seq .leaf (.cond (.join Z56 (fun v => Zf2 K1 v.1 v.2.1 v.2.2.1 v.2.2.2.1 v.2.2.2.2.1) .leaf .leaf) .leaf)))))) .leaf)))))) .leaf))))) ⟨lf, lf, lf, lf, ⟨lf, fun _ => rfl, fun N => ⟨(fun v => by kernel_rfl), lf, ⟨lf, lf, lf, ⟨lf, (fun v => by kernel_rfl), lf⟩, lf⟩, (fun v => by kernel_rfl), lf⟩⟩, lf⟩ (hk fun _ => by kernel_rfl)
abbrev Z1w : FnE := { f := 130, args := [.slice 135 (Zt)], res := [.int .i64], F := fun xs => Kc xs.1 }
theorem Zpo : okE Z1w :=
 ofE (Za Zb8 Zf) Zd Tryz.func130 Tryz.call130 (.seq .leaf (.seq .leaf (.seq .leaf (.seq (.seq .leaf (.block (.loop Zwm (fun N v => Yq N v.1 v.2.1 v.2.2.1) (fun v => Wf v.1 v.2.1 v.2.2.1) (fun K1 => .leaf)))) .leaf)))) ⟨lf, lf, lf, ⟨lf, fun _ => rfl, fun N => ⟨(fun v => by kernel_rfl), lf⟩⟩, lf⟩ (hk fun _ => by kernel_rfl)
abbrev Qft : FnE := { f := 158, args := [.slice 135 (Zt), .int .i64], res := [.int .i64], F := fun xs => Ze2 xs.1 xs.2.1 }
theorem Zug : okE Qft :=
 ofE (Za Zb8 Zf) Zd Tryz.func158 Tryz.call158 (.seq .leaf (.seq .leaf (.seq (.seq .leaf (.block (.loop Z6a (fun N v => K6 N v.1 v.2.1 v.2.2.1) (fun v => Zir v.1 v.2.1 v.2.2.1) (fun K1 => (.seq .leaf (.join Z59 (fun v => Zga K1 v.1 v.2.1 v.2.2.1) .leaf .leaf)))))) .leaf))) ⟨lf, lf, ⟨lf, fun _ => rfl, fun N => ⟨(fun v => by kernel_rfl), lf, lf, (fun v => by kernel_rfl), lf⟩⟩, lf⟩ (hk fun _ => by kernel_rfl)
abbrev Qjr : FnE := { f := 159, args := [Zy], res := [.int .i64], F := fun xs => Zag xs.1 }
theorem Zlo : okE Qjr :=
 ofE Zf Zd Tryz.func159 Tryz.call159 .leaf lf (hk fun _ => by kernel_rfl)
abbrev Qfy : FnE := { f := 109, args := [Zy], res := [.bool], F := fun xs => Ym xs.1 }
theorem K5 : okE Qfy :=
 ofE (Za Znf (Za Zb8 (Za Xh (Za Qw (Za Zb7 (Za Zpo (Za Zug (Za Zlo Zf)))))))) Zd Tryz.func109 Tryz.call109 (.seq .leaf (.seq .leaf (.seq .leaf (.seq .leaf (.seq (.seq .leaf (.block (.loop Z6d (fun N v => W5 N v.1 v.2.1 v.2.2.1) (fun v => Jr v.1 v.2.1 v.2.2.1) (fun K1 => .leaf)))) (.seq (.seq .leaf (.block (.loop Z6e (fun N v => W6 N v.1 v.2.1 v.2.2.1) (fun v => Wv v.1 v.2.1 v.2.2.1) (fun K2 => .leaf)))) (.seq .leaf (.seq .leaf (.seq (.seq .leaf (.block (.loop Z6f (fun N v => W7 N v.1 v.2.1) (fun v => Ww v.1 v.2.1) (fun K3 => .leaf)))) (.seq (.seq .leaf (.block (.loop Z6g (fun N v => W8 N v.1 v.2.1) (fun v => Zdq v.1 v.2.1) (fun K4 => .leaf)))) .leaf)))))))))) ⟨lf, lf, lf, lf, ⟨lf, fun _ => rfl, fun N => ⟨(fun v => by kernel_rfl), lf⟩⟩, ⟨lf, fun _ => rfl, fun N => ⟨(fun v => by kernel_rfl), lf⟩⟩, lf, lf, ⟨lf, fun _ => rfl, fun N => ⟨(fun v => by kernel_rfl), lf⟩⟩, ⟨lf, fun _ => rfl, fun N => ⟨(fun v => by kernel_rfl), lf⟩⟩, lf⟩ (hk fun _ => by kernel_rfl)
abbrev Qmc : FnE := { f := 315, args := [Zbh], res := [.int .i64], F := fun xs => Z0t xs.1 }
theorem Qkq : okE Qmc :=
 ofE (Za Znf Zf) Zd Tryz.func315 Tryz.call315 .leaf lf (hk fun _ => by kernel_rfl)
abbrev Qbo : FnE := { f := 275, args := [Zbh, .str], res := [Zbh, .int .i64], F := fun xs => Znw xs.1 xs.2.1 }
theorem Z9b : okE Qbo :=
 ofE (Za Zr0 (Za Qkq Zf)) Zd Tryz.func275 Tryz.call275 (.seq .leaf (.seq .leaf (.seq .leaf (.seq (.seq .leaf (.block (.loop Z20 (fun N v => Vv N v.1 v.2.1 v.2.2.1 v.2.2.2.1 v.2.2.2.2.1 v.2.2.2.2.2.1) (fun v => Zbz v.1 v.2.1 v.2.2.1 v.2.2.2.1 v.2.2.2.2.1 v.2.2.2.2.2.1) (fun K1 => .leaf)))) .leaf)))) ⟨lf, lf, lf, ⟨lf, fun _ => rfl, fun N => ⟨(fun v => by kernel_rfl), lf⟩⟩, lf⟩ (hk fun _ => by kernel_rfl)
abbrev Z4i : FnE := { f := 229, args := [Zy, .str], res := [Zy, .int .i64], F := fun xs => Zgr xs.1 xs.2.1 }
theorem Zqo : okE Z4i :=
 ofE (Za Zam (Za K5 (Za Z9b (Za Zb7 Zf)))) Zd Tryz.func229 Tryz.call229 (.seq .leaf (.seq .leaf (.seq .leaf (.seq .leaf (.join Zye (fun v => Zfl v.1 v.2.1 v.2.2.1 v.2.2.2.1) .leaf .leaf))))) ⟨lf, lf, lf, lf, lf, (fun v => by kernel_rfl), lf⟩ (hk fun _ => by kernel_rfl)
abbrev Z32 : FnE := { f := 316, args := [.int .i64, .int .i64], res := [.str], F := fun xs => Zok xs.1 xs.2.1 }
theorem Z2b : okE Z32 :=
 ofE (Za Xh Zf) Zd Tryz.func316 Tryz.call316 (.seq .leaf (.seq .leaf (.seq .leaf (.seq (.seq .leaf (.block (.loop Zxu (fun N v => Vz N v.1 v.2.1 v.2.2.1 v.2.2.2.1) (fun v => Zk9 v.1 v.2.1 v.2.2.1 v.2.2.2.1) (fun K1 => .leaf)))) .leaf)))) ⟨lf, lf, lf, ⟨lf, fun _ => rfl, fun N => ⟨(fun v => by kernel_rfl), lf⟩⟩, lf⟩ (hk fun _ => by kernel_rfl)
abbrev Qmm : FnE := { f := 284, args := [.int .i64], res := [.str], F := fun xs => Zmu xs.1 }
theorem Zrw : okE Qmm :=
 ofE (Za Z2b Zf) Zd Tryz.func284 Tryz.call284 .leaf lf (hk fun _ => by kernel_rfl)
abbrev Qf9 : FnE := { f := 276, args := [Zbh, .int .i64, .int .i64], res := [.str, .bool], F := fun xs => Zlc xs.1 xs.2.1 xs.2.2.1 }
theorem Zuk : okE Qf9 :=
 ofE (Za Znf (Za Zrw Zf)) Zd Tryz.func276 Tryz.call276 (.seq .leaf (.seq .leaf (.seq .leaf (.seq (.seq .leaf (.block (.loop Z6l (fun N v => Zgm N v.1 v.2.1 v.2.2.1 v.2.2.2.1 v.2.2.2.2.1) (fun v => Zdr v.1 v.2.1 v.2.2.1 v.2.2.2.1 v.2.2.2.2.1) (fun K1 => .leaf)))) .leaf)))) ⟨lf, lf, lf, ⟨lf, fun _ => rfl, fun N => ⟨(fun v => by kernel_rfl), lf⟩⟩, lf⟩ (hk fun _ => by kernel_rfl)
abbrev Qbg : FnE := { f := 230, args := [Zy, .int .i64, .int .i64], res := [Vg, .bool], F := fun xs => Zc3 xs.1 xs.2.1 xs.2.2.1 }
theorem Zsu : okE Qbg :=
 ofE (Za K5 (Za Zuk Zf)) Zd Tryz.func230 Tryz.call230 (.seq .leaf (.seq .leaf (.seq .leaf (.seq (.seq .leaf (.cond (.seq .leaf (.seq .leaf (.seq .leaf (.join Z2t (fun v => Zel v.1 v.2.1 v.2.2.1 v.2.2.2.1 v.2.2.2.2.1) .leaf .leaf)))) .leaf)) .leaf)))) ⟨lf, lf, lf, ⟨lf, ⟨lf, lf, lf, lf, (fun v => by kernel_rfl), lf⟩, lf⟩, lf⟩ (hk fun _ => by kernel_rfl)
abbrev Qjp : FnE := { f := 277, args := [Zy, Vg], res := [.bool], F := fun xs => Zn3 xs.1 xs.2.1 }
theorem Zp6 : okE Qjp :=
 ofE Zf Zd Tryz.func277 Tryz.call277 .leaf lf (hk fun _ => by kernel_rfl)
abbrev Qjq : FnE := { f := 278, args := [Vg], res := [Zt], F := fun xs => Zkm xs.1 }
theorem Zp7 : okE Qjq :=
 ofE Zf Zd Tryz.func278 Tryz.call278 .leaf lf (hk fun _ => by kernel_rfl)
abbrev Z1v : FnE := { f := 279, args := [.slice 135 (Zt), .slice 135 (Zt)], res := [.slice 135 (Zt)], F := fun xs => Za4 xs.1 xs.2.1 }
theorem Zji : okE Z1v :=
 ofE (Za Zb8 Zf) Zd Tryz.func279 Tryz.call279 (.seq .leaf (.seq .leaf (.seq (.seq .leaf (.block (.loop Zwk (fun N v => Ko N v.1 v.2.1 v.2.2.1 v.2.2.2.1) (fun v => Wd v.1 v.2.1 v.2.2.1 v.2.2.2.1) (fun K1 => (.seq .leaf (.seq (.block (.seq .leaf (.block (.loop Zwl (fun N v => Vd K1 N v.1 v.2.1 v.2.2.1 v.2.2.2.1 v.2.2.2.2.1) (fun v => We v.1 v.2.1 v.2.2.1 v.2.2.2.1 v.2.2.2.2.1) (fun K2 => (.seq .leaf (.join Zwi (fun v => Zed K1 K2 v.1 v.2.1 v.2.2.1 v.2.2.2.1 v.2.2.2.2.1) (.block (.join Zwj (fun v => Zjo K1 K2 v.1 v.2.1 v.2.2.1 v.2.2.2.1 v.2.2.2.2.1 v.2.2.2.2.2.1) .leaf .leaf)) .leaf))))))) .leaf)))))) .leaf))) ⟨lf, lf, ⟨lf, fun _ => rfl, fun N => ⟨(fun v => by kernel_rfl), lf, ⟨lf, fun _ => rfl, fun N => ⟨(fun v => by kernel_rfl), lf, ⟨lf, (fun v => by kernel_rfl), lf⟩, (fun v => by kernel_rfl), lf⟩⟩, lf⟩⟩, lf⟩ (hk fun _ => by kernel_rfl)
abbrev Z4e : FnE := { f := 280, args := [.slice 135 (Zt), Zt], res := [.slice 135 (Zt)], F := fun xs => Zcd xs.1 xs.2.1 }
theorem Zkt : okE Z4e :=
 ofE (Za Zb8 (Za Zry (Za Zrx Zf))) Zd Tryz.func280 Tryz.call280 (.seq .leaf (.seq .leaf (.seq .leaf (.seq (.seq .leaf (.block (.loop Zyc (fun N v => Y5 N v.1 v.2.1 v.2.2.1 v.2.2.2.1) (fun v => Zae v.1 v.2.1 v.2.2.1 v.2.2.2.1) (fun K1 => (.seq .leaf (.join Zya (fun v => Zfk K1 v.1 v.2.1 v.2.2.1 v.2.2.2.1) (.block (.join Zyb (fun v => Zbq K1 v.1 v.2.1 v.2.2.1 v.2.2.2.1) .leaf .leaf)) .leaf)))))) .leaf)))) ⟨lf, lf, lf, ⟨lf, fun _ => rfl, fun N => ⟨(fun v => by kernel_rfl), lf, ⟨lf, (fun v => by kernel_rfl), lf⟩, (fun v => by kernel_rfl), lf⟩⟩, lf⟩ (hk fun _ => by kernel_rfl)
abbrev Qbk : FnE := { f := 231, args := [Zy, Vg], res := [Zy, .bool], F := fun xs => Zju xs.1 xs.2.1 }
theorem Zsv : okE Qbk :=
 ofE (Za Zam (Za K5 (Za Zp6 (Za Zp7 (Za Zji (Za Zkt (Za Zb7 (Za Zlo Zf)))))))) Zd Tryz.func231 Tryz.call231 (.seq .leaf (.seq .leaf (.seq .leaf (.join Z2x (fun v => Zep v.1 v.2.1 v.2.2.1) .leaf (.join Z2y (fun v => Zeq v.1 v.2.1) .leaf .leaf))))) ⟨lf, lf, lf, lf, (fun v => by kernel_rfl), lf, (fun v => by kernel_rfl), lf⟩ (hk fun _ => by kernel_rfl)
abbrev Qmy : FnB := { f := 233, args := [.bx 110 (Xg) false, .sh (Zy)], res := .vals [Vg], F := fun xs => Zpv xs.1 xs.2.1 }
theorem Qky : okB Qmy :=
 ofB [0] (Za Zuk Zf) (Zn Qh (Zn Zal Zd)) Tryz.func233 Tryz.call233 (.seq .leaf (.seq .leaf (.join Qdx (fun v => Zr6 v.1 v.2.1 v.2.2.1 v.2.2.2.1) .leaf .leaf))) ⟨lf, lf, lf, (fun v => by kernel_rfl), lf⟩ (hk fun _ => by kernel_rfl)
abbrev Qfs : FnE := { f := 281, args := [Zbh, .int .i64], res := [Zbh, .bool], F := fun xs => Zih xs.1 xs.2.1 }
theorem Qco : okE Qfs :=
 ofE (Za Zr0 (Za Znf Zf)) Zd Tryz.func281 Tryz.call281 (.seq .leaf (.seq .leaf (.seq .leaf (.seq (.seq .leaf (.block (.loop Z58 (fun N v => Zf5 N v.1 v.2.1 v.2.2.1 v.2.2.2.1 v.2.2.2.2.1) (fun v => Zdo v.1 v.2.1 v.2.2.1 v.2.2.2.1 v.2.2.2.2.1) (fun K1 => .leaf)))) .leaf)))) ⟨lf, lf, lf, ⟨lf, fun _ => rfl, fun N => ⟨(fun v => by kernel_rfl), lf⟩⟩, lf⟩ (hk fun _ => by kernel_rfl)
abbrev Qfo : FnE := { f := 232, args := [Zy, Vg], res := [Zy], F := fun xs => Zk7 xs.1 xs.2.1 }
theorem Zue : okE Qfo :=
 ofE (Za Zam (Za K5 (Za Zp6 (Za Zp7 (Za Zji (Za Zkt (Za Zb7 (Za Zug (Za Qco (Za Zlo Zf)))))))))) Zd Tryz.func232 Tryz.call232 (.seq .leaf (.seq .leaf (.seq .leaf (.join Z51 (fun v => Zfz v.1 v.2.1 v.2.2.1 v.2.2.2.1) (.seq .leaf (.cond (.seq .leaf (.seq .leaf (.block (.loop Z54 (fun N v => Zf1 N v.1 v.2.1 v.2.2.1 v.2.2.2.1 v.2.2.2.2.1 v.2.2.2.2.2.1) (fun v => Ziq v.1 v.2.1 v.2.2.1 v.2.2.2.1 v.2.2.2.2.1 v.2.2.2.2.2.1) (fun K1 => .leaf))))) .leaf)) (.join Z52 (fun v => Zf0 v.1 v.2.1 v.2.2.1) .leaf (.join Z53 (fun v => Xp v.1 v.2.1 v.2.2.1) .leaf .leaf)))))) ⟨lf, lf, lf, ⟨lf, ⟨lf, lf, fun _ => rfl, fun N => ⟨(fun v => by kernel_rfl), lf⟩⟩, lf⟩, (fun v => by kernel_rfl), lf, (fun v => by kernel_rfl), lf, (fun v => by kernel_rfl), lf⟩ (hk fun _ => by kernel_rfl)
abbrev Qa8 : FnE := { f := 234, args := [Zy, Vg], res := [Zy], F := fun xs => Zjp xs.1 xs.2.1 }
theorem Zsp : okE Qa8 :=
 ofE (Za Zam (Za K5 (Za Zp6 (Za Zp7 (Za Zji (Za Zkt (Za Zb7 (Za Zlo Zf)))))))) Zd Tryz.func234 Tryz.call234 (.seq .leaf (.seq .leaf (.seq .leaf (.join Z2q (fun v => Zei v.1 v.2.1 v.2.2.1 v.2.2.2.1) (.seq .leaf (.cond (.seq .leaf (.seq .leaf (.block (.loop Z2s (fun N v => Zek N v.1 v.2.1 v.2.2.1 v.2.2.2.1 v.2.2.2.2.1 v.2.2.2.2.2.1) (fun v => Zhq v.1 v.2.1 v.2.2.1 v.2.2.2.1 v.2.2.2.2.1 v.2.2.2.2.2.1) (fun K1 => .leaf))))) .leaf)) (.join Z2r (fun v => Zej v.1 v.2.1) .leaf .leaf))))) ⟨lf, lf, lf, ⟨lf, ⟨lf, lf, fun _ => rfl, fun N => ⟨(fun v => by kernel_rfl), lf⟩⟩, lf⟩, (fun v => by kernel_rfl), lf, (fun v => by kernel_rfl), lf⟩ (hk fun _ => by kernel_rfl)
abbrev Z30 : FnE := { f := 235, args := [Zy], res := [Zy, .bool], F := fun xs => Zf4 xs.1 }
theorem Zqj : okE Z30 :=
 ofE (Za Zam (Za K5 Zf)) Zd Tryz.func235 Tryz.call235 .leaf lf (hk fun _ => by kernel_rfl)
abbrev Z4f : FnE := { f := 236, args := [Zy, .int .i64], res := [Zy, .bool], F := fun xs => Zce xs.1 xs.2.1 }
theorem Zku : okE Z4f :=
 ofE (Za K5 (Za Qw (Za Zam Zf))) Zd Tryz.func236 Tryz.call236 (.seq .leaf (.seq .leaf (.join Zyd (fun v => Zky v.1 v.2.1 v.2.2.1 v.2.2.2.1) .leaf .leaf))) ⟨lf, lf, lf, (fun v => by kernel_rfl), lf⟩ (hk fun _ => by kernel_rfl)
abbrev Qmz : FnB := { f := 189, args := [.bx 110 (Xg) false, .sh (Zy)], res := .shr [Zy], F := fun xs => Ztc xs.1 xs.2.1 }
theorem Qkz : okB Qmz :=
 ofB [0] (Za Zqo (Za Zsu (Za Zsv (Za Zue (Za Zsp (Za Zqj (Za Zku Zf))))))) (Zn Qh (Zn Zjj (Zn Qky (Zn Zal Zd)))) Tryz.func189 Tryz.call189 (.seq .leaf (.seq .leaf (.seq (.seq .leaf (.block (.join Qdy (fun v => Zg3 v.1 v.2.1 v.2.2.1 v.2.2.2.1 v.2.2.2.2.1 v.2.2.2.2.2.1) .leaf (.cond .leaf (.join Qdz (fun v => Zg4 v.1 v.2.1 v.2.2.1 v.2.2.2.1 v.2.2.2.2.1 v.2.2.2.2.2.1) .leaf (.cond (.join Qd0 (fun v => Yd v.1 v.2.1 v.2.2.1 v.2.2.2.1 v.2.2.2.2.1 v.2.2.2.2.2.1) .leaf .leaf) .leaf)))))) (.seq .leaf (.frz [4]))))) ⟨lf, lf, ⟨lf, lf, (fun v => by kernel_rfl), lf, lf, (fun v => by kernel_rfl), ⟨lf, (fun v => by kernel_rfl), lf⟩, lf⟩, lf, trivial⟩ (hk fun _ => by kernel_rfl)
abbrev Qgp : FnB := { f := 143, args := [.bx 110 (Xg) false], res := .shr [Zy], F := fun xs => Zpb xs.1 }
theorem Qc4 : okB Qgp :=
 ofB [0] (Za Zss Zf) (Zn Za1 (Zn Qh (Zn Qkz Zd))) Tryz.func143 Tryz.call143 (.seq .leaf (.seq .leaf (.seq (.seq .leaf (.block (.loop Z6r (fun N v => Zcf N v.1 v.2.1 v.2.2.1 v.2.2.2.1) (fun v => Zds v.1 v.2.1 v.2.2.1 v.2.2.2.1) (fun K1 => (.seq .leaf (.seq (.block (.frz [3])) .leaf)))))) .leaf))) ⟨lf, lf, ⟨lf, fun _ => rfl, fun N => ⟨(fun v => by kernel_rfl), lf, trivial, lf⟩⟩, lf⟩ (hk fun _ => by kernel_rfl)
abbrev Qmu : FnE := { f := 282, args := [Xv], res := [Xv], F := fun xs => Zha xs.1 }
theorem Zrz : okE Qmu :=
 ofE Zf Zd Tryz.func282 Tryz.call282 .leaf lf (hk fun _ => by kernel_rfl)
abbrev Qmv : FnE := { f := 237, args := [Qt], res := [Qt], F := fun xs => Zka xs.1 }
theorem Zni : okE Qmv :=
 ofE (Za Zrz Zf) Zd Tryz.func237 Tryz.call237 .leaf lf (hk fun _ => by kernel_rfl)
abbrev Qfu : FnE := { f := 114, args := [Xv], res := [.bool], F := fun xs => Zb4 xs.1 }
theorem Zfx : okE Qfu :=
 ofE (Za Qw Zf) Zd Tryz.func114 Tryz.call114 (.seq .leaf (.seq .leaf (.seq (.seq .leaf (.block (.loop Z6b (fun N v => Zcb N v.1 v.2.1 v.2.2.1) (fun v => Zis v.1 v.2.1 v.2.2.1) (fun K1 => .leaf)))) .leaf))) ⟨lf, lf, ⟨lf, fun _ => rfl, fun N => ⟨(fun v => by kernel_rfl), lf⟩⟩, lf⟩ (hk fun _ => by kernel_rfl)
abbrev Qo4 : FnE := { f := 160, args := [Xv], res := [.int .i64], F := fun xs => Zol xs.1 }
theorem Qm6 : okE Qo4 :=
 ofE (Za Zfx Zf) Zd Tryz.func160 Tryz.call160 .leaf lf (hk fun _ => by kernel_rfl)
abbrev Z79 : FnE := { f := 161, args := [Xv], res := [.int .i64], F := fun xs => V7 xs.1 }
theorem Zmg : okE Z79 :=
 ofE (Za Zfx Zf) Zd Tryz.func161 Tryz.call161 .leaf lf (hk fun _ => by kernel_rfl)
abbrev Z7v : FnE := { f := 111, args := [Qt], res := [.bool], F := fun xs => X9 xs.1 }
theorem W3 : okE Z7v :=
 ofE (Za Zfx (Za Qw (Za Qm6 (Za Zmg Zf)))) Zd Tryz.func111 Tryz.call111 (.seq .leaf (.seq .leaf (.seq .leaf (.seq (.seq .leaf (.block (.seq .leaf (.cond .leaf (.seq .leaf (.cond .leaf (.seq .leaf (.cond .leaf (.seq .leaf (.cond .leaf (.join Z0b (fun v => Yu v.1 v.2.1) .leaf .leaf))))))))))) .leaf)))) ⟨lf, lf, lf, ⟨lf, lf, lf, lf, lf, lf, lf, lf, lf, lf, (fun v => by kernel_rfl), lf⟩, lf⟩ (hk fun _ => by kernel_rfl)
abbrev Qjn : FnE := { f := 238, args := [Qt, .int .i64, .bool], res := [.int .i64], F := fun xs => Zn2 xs.1 xs.2.1 xs.2.2.1 }
theorem Zxa : okE Qjn :=
 ofE Zf Zd Tryz.func238 Tryz.call238 .leaf lf (hk fun _ => by kernel_rfl)
abbrev Z1s : FnE := { f := 67, args := [Xv], res := [.slice 135 (Zt)], F := fun xs => Zeb xs.1 }
theorem Zpm : okE Z1s :=
 ofE (Za Zfx Zf) Zd Tryz.func67 Tryz.call67 (.seq .leaf (.seq .leaf (.seq (.seq .leaf (.block (.loop Zwh (fun N v => Yp N v.1 v.2.1 v.2.2.1) (fun v => Wc v.1 v.2.1 v.2.2.1) (fun K1 => .leaf)))) .leaf))) ⟨lf, lf, ⟨lf, fun _ => rfl, fun N => ⟨(fun v => by kernel_rfl), lf⟩⟩, lf⟩ (hk fun _ => by kernel_rfl)
abbrev Ql6 : FnE := { f := 283, args := [Xv, .int .i64], res := [.int .i64], F := fun xs => Zs2 xs.1 xs.2.1 }
theorem Qkn : okE Ql6 :=
 ofE Zf Zd Tryz.func283 Tryz.call283 (.seq .leaf (.seq (.seq .leaf (.block (.loop Qdj (fun N v => Zf3 N v.1 v.2.1 v.2.2.1) (fun v => Zkx v.1 v.2.1 v.2.2.1) (fun K1 => .leaf)))) .leaf)) ⟨lf, ⟨lf, fun _ => rfl, fun N => ⟨(fun v => by kernel_rfl), lf⟩⟩, lf⟩ (hk fun _ => by kernel_rfl)
abbrev Z7s : FnE := { f := 239, args := [Xv, .int .i64, .str], res := [Xv], F := fun xs => Zlv xs.1 xs.2.1 xs.2.2.1 }
theorem Z5d : okE Z7s :=
 ofE (Za Zfx (Za Zrz (Za Zpm (Za Zb7 (Za Qkn (Za Zrw Zf)))))) Zd Tryz.func239 Tryz.call239 (.seq .leaf (.seq .leaf (.seq .leaf (.seq .leaf (.seq .leaf (.seq .leaf (.seq .leaf (.seq (.seq .leaf (.block (.loop Zz9 (fun N v => W4 N v.1 v.2.1 v.2.2.1 v.2.2.2.1 v.2.2.2.2.1 v.2.2.2.2.2.1 v.2.2.2.2.2.2.1) (fun v => Za7 v.1 v.2.1 v.2.2.1 v.2.2.2.1 v.2.2.2.2.1 v.2.2.2.2.2.1 v.2.2.2.2.2.2.1) (fun K1 => (.seq .leaf (.seq (.block (.seq .leaf (.seq (.seq .leaf (.block (.loop Z0a (fun N v => Kr K1 N v.1 v.2.1 v.2.2.1 v.2.2.2.1 v.2.2.2.2.1 v.2.2.2.2.2.1 v.2.2.2.2.2.2.1 v.2.2.2.2.2.2.2.1 v.2.2.2.2.2.2.2.2.1) (fun v => Za8 v.1 v.2.1 v.2.2.1 v.2.2.2.1 v.2.2.2.2.1 v.2.2.2.2.2.1 v.2.2.2.2.2.2.1 v.2.2.2.2.2.2.2.1 v.2.2.2.2.2.2.2.2.1) (fun K2 => (.seq .leaf (.seq (.block (.seq .leaf (.join Zz8 (fun v => Zcw K1 K2 v.1 v.2.1 v.2.2.1 v.2.2.2.1 v.2.2.2.2.1 v.2.2.2.2.2.1 v.2.2.2.2.2.2.1 v.2.2.2.2.2.2.2.1 v.2.2.2.2.2.2.2.2.1 v.2.2.2.2.2.2.2.2.2.1) .leaf .leaf))) .leaf)))))) .leaf))) .leaf)))))) .leaf)))))))) ⟨lf, lf, lf, lf, lf, lf, lf, ⟨lf, fun _ => rfl, fun N => ⟨(fun v => by kernel_rfl), lf, ⟨lf, ⟨lf, fun _ => rfl, fun N => ⟨(fun v => by kernel_rfl), lf, ⟨lf, lf, (fun v => by kernel_rfl), lf⟩, lf⟩⟩, lf⟩, lf⟩⟩, lf⟩ (hk fun _ => by kernel_rfl)
abbrev Z4d : FnE := { f := 190, args := [Qt, .int .i64, .str, .bool], res := [Qt, .int .i64], F := fun xs => W9 xs.1 xs.2.1 xs.2.2.1 xs.2.2.2.1 }
theorem Zqn : okE Z4d :=
 ofE (Za Zni (Za W3 (Za Zxa (Za Z5d (Za Zmg Zf))))) Zd Tryz.func190 Tryz.call190 (.seq .leaf (.seq .leaf (.seq .leaf (.seq .leaf (.seq .leaf (.seq .leaf (.seq .leaf (.join Zx8 (fun v => Zbp v.1 v.2.1 v.2.2.1 v.2.2.2.1 v.2.2.2.2.1) .leaf (.seq .leaf (.join Zx9 (fun v => Zfj v.1 v.2.1) .leaf .leaf)))))))))) ⟨lf, lf, lf, lf, lf, lf, lf, lf, (fun v => by kernel_rfl), lf, lf, (fun v => by kernel_rfl), lf⟩ (hk fun _ => by kernel_rfl)
abbrev Qbm : FnE := { f := 240, args := [Xv, .int .i64], res := [.str, Xv], F := fun xs => Znv xs.1 xs.2.1 }
theorem Z89 : okE Qbm :=
 ofE (Za Zmg (Za Zrz Zf)) Zd Tryz.func240 Tryz.call240 (.seq .leaf (.seq .leaf (.seq .leaf (.seq .leaf (.seq .leaf (.seq .leaf (.seq (.seq .leaf (.cond (.seq (.frz [7]) .leaf) .leaf)) .leaf))))))) ⟨lf, lf, lf, lf, lf, lf, ⟨lf, ⟨trivial, lf⟩, lf⟩, lf⟩ (hk fun _ => by kernel_rfl)
abbrev Z12 : FnB := { f := 191, args := [.sh (Qt), .sh (.int .i64)], res := .shr [.str, Qt], F := fun xs => Zem xs.1 xs.2.1 }
theorem Zpp : okB Z12 :=
 ofB [] (Za Zni (Za W3 (Za Z89 Zf))) Zd Tryz.func191 Tryz.call191 (.seq .leaf (.seq .leaf (.seq (.seq .leaf (.cond (.seq .leaf (.frz [5])) .leaf)) (.seq (.seq .leaf (.cond (.seq .leaf (.seq .leaf (.frz [5]))) .leaf)) (.seq .leaf (.seq (.frz [8]) (.join Zwv (fun v => Zen v.1 v.2.1 v.2.2.1) .leaf .leaf))))))) ⟨lf, lf, ⟨lf, ⟨lf, trivial⟩, lf⟩, ⟨lf, ⟨lf, lf, trivial⟩, lf⟩, lf, trivial, lf, (fun v => by kernel_rfl), lf⟩ (hk fun _ => by kernel_rfl)
abbrev Z13 : FnE := { f := 192, args := [Qt, .int .i64, .int .i64], res := [Qt, .int .i64], F := fun xs => Zeo xs.1 xs.2.1 xs.2.2.1 }
theorem Zpq : okE Z13 :=
 ofE (Za Zni (Za W3 (Za Qw (Za Zxa Zf)))) Zd Tryz.func192 Tryz.call192 .leaf lf (hk fun _ => by kernel_rfl)
abbrev Z8e : FnB := { f := 144, args := [.bx 110 (Xg) false], res := .shr [Qt], F := fun xs => Zl7 xs.1 }
theorem Z5u : okB Z8e :=
 ofB [0] (Za Zql (Za Zqn (Za Zpq Zf))) (Zn Qh (Zn Zjj (Zn Zpp (Zn Zal Zd)))) Tryz.func144 Tryz.call144 (.seq .leaf (.seq .leaf (.seq (.seq .leaf (.block (.loop Z00 (fun N v => Xl N v.1 v.2.1 v.2.2.1 v.2.2.2.1) (fun v => Zba v.1 v.2.1 v.2.2.1 v.2.2.2.1) (fun K1 => (.seq .leaf (.seq (.block (.seq .leaf (.seq .leaf (.seq (.frz [3]) .leaf)))) .leaf)))))) .leaf))) ⟨lf, lf, ⟨lf, fun _ => rfl, fun N => ⟨(fun v => by kernel_rfl), lf, ⟨lf, lf, trivial, lf⟩, lf⟩⟩, lf⟩ (hk fun _ => by kernel_rfl)
abbrev Qbp : FnB := { f := 97, args := [.bx 110 (Xg) false], res := .shr [Z1], F := fun xs => Znx xs.1 }
theorem Z9c : okB Qbp :=
 ofB [0] (Za Znh Zf) (Zn Zal (Zn Qh (Zn Zw5 (Zn Qc4 (Zn Z5u Zd))))) Tryz.func97 Tryz.call97 (.seq .leaf (.seq .leaf (.join Z21 (fun v => Zes v.1 v.2.1 v.2.2.1) .leaf .leaf))) ⟨lf, lf, lf, (fun v => by kernel_rfl), lf⟩ (hk fun _ => by kernel_rfl)
abbrev Qme : FnB := { f := 48, args := [.bx 110 (Xg) false], res := .shr [Z1], F := fun xs => Zs5 xs.1 }
theorem Qkr : okB Qme :=
 ofB [0] Zf (Zn Z9c (Zn Qh (Zn Za1 Zd))) Tryz.func48 Tryz.call48 .leaf lf (hk fun _ => by kernel_rfl)
abbrev Zt3 : FnB := { f := 11, args := [.sh (.slice 5 (.int .u8))], res := .shr [Z1], F := fun xs => Zdn xs.1 }
theorem Ztr : okB Zt3 :=
 ofB [] Zf (Zn Zig (Zn Qkr Zd)) Tryz.func11 Tryz.call11 .leaf lf (hk fun _ => by kernel_rfl)
abbrev Qf5 : FnE := { f := 193, args := [.int .i64], res := [Zi7, .bool], F := fun xs => Zo5 xs.1 }
theorem Qcr : okE Qf5 :=
 ofE (Za Xh Zf) Zd Tryz.func193 Tryz.call193 .leaf lf (hk fun _ => by kernel_rfl)
abbrev Qf3 : FnE := { f := 194, args := [.int .i64], res := [Q4, .bool], F := fun xs => Zo3 xs.1 }
theorem Qcp : okE Qf3 :=
 ofE (Za Xh Zf) Zd Tryz.func194 Tryz.call194 .leaf lf (hk fun _ => by kernel_rfl)
abbrev Qi1 : FnE := { f := 145, args := [.bool, Zqf, Zqf], res := [Zq, .bool], F := fun xs => Zq0 xs.1 xs.2.1 xs.2.2.1 }
theorem Qg1 : okE Qi1 :=
 ofE (Za Zrr (Za Zsr (Za Zst (Za Qcr (Za Qcp Zf))))) Zd Tryz.func145 Tryz.call145 .leaf lf (hk fun _ => by kernel_rfl)
abbrev Qi5 : FnE := { f := 285, args := [Z1], res := [Z1], F := fun xs => Zb0 xs.1 }
theorem Zp4 : okE Qi5 :=
 ofE (Za Zam (Za Zni Zf)) Zd Tryz.func285 Tryz.call285 .leaf lf (hk fun _ => by kernel_rfl)
abbrev Z8a : FnE := { f := 286, args := [.slice 148 (Wz)], res := [.slice 148 (Wz)], F := fun xs => Zl4 xs.1 }
theorem Z5q : okE Z8a :=
 ofE Zf Zd Tryz.func286 Tryz.call286 (.seq .leaf (.seq .leaf (.seq (.seq .leaf (.block (.loop Z0u (fun N v => Zda N v.1 v.2.1 v.2.2.1) (fun v => Zgu v.1 v.2.1 v.2.2.1) (fun K1 => .leaf)))) .leaf))) ⟨lf, lf, ⟨lf, fun _ => rfl, fun N => ⟨(fun v => by kernel_rfl), lf⟩⟩, lf⟩ (hk fun _ => by kernel_rfl)
abbrev Qi6 : FnE := { f := 241, args := [Zq], res := [Zq], F := fun xs => Z8 xs.1 }
theorem Qz : okE Qi6 :=
 ofE (Za Zp4 (Za Z5q Zf)) Zd Tryz.func241 Tryz.call241 (.seq .leaf (.seq .leaf (.seq .leaf (.seq (.seq .leaf (.block (.loop Z9z (fun N v => Zh7 N v.1 v.2.1 v.2.2.1 v.2.2.2.1) (fun v => Zjz v.1 v.2.1 v.2.2.1 v.2.2.2.1) (fun K1 => .leaf)))) .leaf)))) ⟨lf, lf, lf, ⟨lf, fun _ => rfl, fun N => ⟨(fun v => by kernel_rfl), lf⟩⟩, lf⟩ (hk fun _ => by kernel_rfl)
abbrev Qfw : FnE := { f := 110, args := [Q4], res := [.bool], F := fun xs => Yl xs.1 }
theorem Va : okE Qfw :=
 ofE (Za Qw (Za Xh Zf)) Zd Tryz.func110 Tryz.call110 .leaf lf (hk fun _ => by kernel_rfl)
abbrev Qf0 : FnE := { f := 112, args := [Jw], res := [.bool], F := fun xs => Kz xs.1 }
theorem Zb9 : okE Qf0 :=
 ofE (Za Xh Zf) Zd Tryz.func112 Tryz.call112 .leaf lf (hk fun _ => by kernel_rfl)
abbrev Z7t : FnE := { f := 113, args := [Kw], res := [.bool], F := fun xs => Zbf xs.1 }
theorem Zmf : okE Z7t :=
 ofE (Za Xh Zf) Zd Tryz.func113 Tryz.call113 .leaf lf (hk fun _ => by kernel_rfl)
abbrev Qfz : FnE := { f := 63, args := [Z1], res := [.bool], F := fun xs => Vj xs.1 }
theorem Zof : okE Qfz :=
 ofE (Za Qw (Za K5 (Za Va (Za W3 (Za Zb9 (Za Zmf Zf)))))) Zd Tryz.func63 Tryz.call63 .leaf lf (hk fun _ => by kernel_rfl)
abbrev Z7k : FnE := { f := 124, args := [.slice 51 (Z1)], res := [.bool], F := fun xs => Ky xs.1 }
theorem Zmd : okE Z7k :=
 ofE (Za Zof Zf) Zd Tryz.func124 Tryz.call124 (.seq .leaf (.seq (.seq .leaf (.block (.loop Zz1 (fun N v => Yt N v.1 v.2.1) (fun v => Za3 v.1 v.2.1) (fun K1 => .leaf)))) .leaf)) ⟨lf, ⟨lf, fun _ => rfl, fun N => ⟨(fun v => by kernel_rfl), lf⟩⟩, lf⟩ (hk fun _ => by kernel_rfl)
abbrev Qix : FnE := { f := 125, args := [Zi7], res := [.bool], F := fun xs => Zeh xs.1 }
theorem Zp3 : okE Qix :=
 ofE (Za Xh Zf) Zd Tryz.func125 Tryz.call125 .leaf lf (hk fun _ => by kernel_rfl)
abbrev Qiw : FnE := { f := 126, args := [Q4], res := [.bool], F := fun xs => Vr xs.1 }
theorem Zll : okE Qiw :=
 ofE (Za Xh Zf) Zd Tryz.func126 Tryz.call126 .leaf lf (hk fun _ => by kernel_rfl)
abbrev Qbq : FnE := { f := 127, args := [.slice 25 (Zr)], res := [.bool], F := fun xs => Zgt xs.1 }
theorem Z9d : okE Qbq :=
 ofE (Za Zbe Zf) Zd Tryz.func127 Tryz.call127 (.seq .leaf (.seq (.seq .leaf (.block (.loop Z22 (fun N v => Vx N v.1 v.2.1) (fun v => K8 v.1 v.2.1) (fun K1 => .leaf)))) .leaf)) ⟨lf, ⟨lf, fun _ => rfl, fun N => ⟨(fun v => by kernel_rfl), lf⟩⟩, lf⟩ (hk fun _ => by kernel_rfl)
abbrev Qbl : FnE := { f := 128, args := [.slice 51 (Z1)], res := [.int .i64], F := fun xs => Zgq xs.1 }
theorem Z88 : okE Qbl :=
 ofE (Za Zmd Zf) Zd Tryz.func128 Tryz.call128 (.seq .leaf (.seq .leaf (.seq (.seq .leaf (.block (.loop Z2z (fun N v => Ji N v.1 v.2.1 v.2.2.1) (fun v => Yx v.1 v.2.1 v.2.2.1) (fun K1 => .leaf)))) .leaf))) ⟨lf, lf, ⟨lf, fun _ => rfl, fun N => ⟨(fun v => by kernel_rfl), lf⟩⟩, lf⟩ (hk fun _ => by kernel_rfl)
abbrev Qbj : FnE := { f := 129, args := [.slice 51 (Z1)], res := [.int .i64], F := fun xs => Zgp xs.1 }
theorem Z87 : okE Qbj :=
 ofE (Za Zmd Zf) Zd Tryz.func129 Tryz.call129 (.seq .leaf (.seq .leaf (.seq (.seq .leaf (.block (.loop Z2w (fun N v => Jh N v.1 v.2.1 v.2.2.1) (fun v => Yw v.1 v.2.1 v.2.2.1) (fun K1 => .leaf)))) .leaf))) ⟨lf, lf, ⟨lf, fun _ => rfl, fun N => ⟨(fun v => by kernel_rfl), lf⟩⟩, lf⟩ (hk fun _ => by kernel_rfl)
abbrev Ql8 : FnE := { f := 73, args := [Zq], res := [.bool], F := fun xs => Xy xs.1 }
theorem Kl : okE Ql8 :=
 ofE (Za Zrr (Za Zmd (Za Va (Za Zb9 (Za Zp3 (Za Zll (Za Xh (Za Z9d (Za Z88 (Za Z87 Zf)))))))))) Zd Tryz.func73 Tryz.call73 (.seq .leaf (.seq .leaf (.seq (.seq .leaf (.block (.loop Qdk (fun N v => Vs N v.1 v.2.1) (fun v => Jc v.1 v.2.1) (fun K1 => .leaf)))) .leaf))) ⟨lf, lf, ⟨lf, fun _ => rfl, fun N => ⟨(fun v => by kernel_rfl), lf⟩⟩, lf⟩ (hk fun _ => by kernel_rfl)
abbrev Qfv : FnE := { f := 74, args := [Zq], res := [.bool], F := fun xs => Zo2 xs.1 }
theorem Zuh : okE Qfv :=
 ofE Zf Zd Tryz.func74 Tryz.call74 .leaf lf (hk fun _ => by kernel_rfl)
abbrev Qjc : FnE := { f := 242, args := [Zq], res := [.bool], F := fun xs => Kd xs.1 }
theorem Kx : okE Qjc :=
 ofE (Za Kl (Za Zuh Zf)) Zd Tryz.func242 Tryz.call242 .leaf lf (hk fun _ => by kernel_rfl)
abbrev Qf6 : FnE := { f := 243, args := [Zi7], res := [.int .i64, Zi7, .bool], F := fun xs => Zo6 xs.1 }
theorem Qcs : okE Qf6 :=
 ofE (Za Zp3 Zf) Zd Tryz.func243 Tryz.call243 .leaf lf (hk fun _ => by kernel_rfl)
abbrev Qmb : FnE := { f := 244, args := [.int .i64, .bool, .bool], res := [.int .i64], F := fun xs => Zs4 xs.1 xs.2.1 xs.2.2.1 }
theorem Qkp : okE Qmb :=
 ofE (Za Xh Zf) Zd Tryz.func244 Tryz.call244 (.seq .leaf (.seq .leaf (.seq .leaf (.join Qdm (fun v => Zjq v.1 v.2.1) .leaf .leaf)))) ⟨lf, lf, lf, lf, (fun v => by kernel_rfl), lf⟩ (hk fun _ => by kernel_rfl)
abbrev Z7o : FnE := { f := 287, args := [.slice 51 (Z1), .int .i64], res := [.int .i64], F := fun xs => Zd3 xs.1 xs.2.1 }
theorem Zme : okE Z7o :=
 ofE Zf Zd Tryz.func287 Tryz.call287 (.seq .leaf (.seq (.seq .leaf (.block (.loop Zz6 (fun N v => Zcs N v.1 v.2.1 v.2.2.1) (fun v => Zf9 v.1 v.2.1 v.2.2.1) (fun K1 => .leaf)))) .leaf)) ⟨lf, ⟨lf, fun _ => rfl, fun N => ⟨(fun v => by kernel_rfl), lf⟩⟩, lf⟩ (hk fun _ => by kernel_rfl)
abbrev Qbh : FnE := { f := 245, args := [.slice 51 (Z1), Z1], res := [.slice 51 (Z1)], F := fun xs => Xu xs.1 xs.2.1 }
theorem Ya : okE Qbh :=
 ofE (Za Zme (Za Zp4 Zf)) Zd Tryz.func245 Tryz.call245 (.seq .leaf (.seq .leaf (.seq .leaf (.seq .leaf (.seq (.seq .leaf (.block (.loop Z2v (fun N v => Jg N v.1 v.2.1 v.2.2.1 v.2.2.2.1 v.2.2.2.2.1 v.2.2.2.2.2.1) (fun v => Zht v.1 v.2.1 v.2.2.1 v.2.2.2.1 v.2.2.2.2.1 v.2.2.2.2.2.1) (fun K1 => (.seq .leaf (.seq (.block (.seq .leaf (.join Z2u (fun v => Za9 K1 v.1 v.2.1 v.2.2.1 v.2.2.2.1 v.2.2.2.2.1 v.2.2.2.2.2.1 v.2.2.2.2.2.2.1) .leaf .leaf))) .leaf)))))) .leaf))))) ⟨lf, lf, lf, lf, ⟨lf, fun _ => rfl, fun N => ⟨(fun v => by kernel_rfl), lf, ⟨lf, lf, (fun v => by kernel_rfl), lf⟩, lf⟩⟩, lf⟩ (hk fun _ => by kernel_rfl)
abbrev Z72 : FnE := { f := 195, args := [Zq, .bool], res := [.int .i64, Zq, .bool], F := fun xs => Zl1 xs.1 xs.2.1 }
theorem Z5l : okE Z72 :=
 ofE (Za Qz (Za Kx (Za Qcs (Za Qkp (Za Znh (Za Ya Zf)))))) Zd Tryz.func195 Tryz.call195 (.seq .leaf (.seq .leaf (.seq .leaf (.seq .leaf (.join Z0j (fun v => Zc5 v.1 v.2.1 v.2.2.1 v.2.2.2.1 v.2.2.2.2.1) .leaf (.seq .leaf (.join Z0k (fun v => Zc6 v.1 v.2.1 v.2.2.1 v.2.2.2.1 v.2.2.2.2.1 v.2.2.2.2.2.1) .leaf .leaf))))))) ⟨lf, lf, lf, lf, lf, (fun v => by kernel_rfl), lf, lf, (fun v => by kernel_rfl), lf⟩ (hk fun _ => by kernel_rfl)
abbrev Qgg : FnE := { f := 246, args := [Zq, .int .i64], res := [Z1, .bool], F := fun xs => Q0 xs.1 xs.2.1 }
theorem Q8 : okE Qgg :=
 ofE (Za Zme (Za Zp4 Zf)) Zd Tryz.func246 Tryz.call246 .leaf lf (hk fun _ => by kernel_rfl)
abbrev Z4j : FnE := { f := 196, args := [Zq, .int .i64, .str], res := [.int .i64, Zq], F := fun xs => Zkk xs.1 xs.2.1 xs.2.2.1 }
theorem Z2k : okE Z4j :=
 ofE (Za Qz (Za Q8 (Za Kx (Za Zqo (Za Ya Zf))))) Zd Tryz.func196 Tryz.call196 .leaf lf (hk fun _ => by kernel_rfl)
abbrev Z1y : FnE := { f := 197, args := [Zq, .int .i64], res := [Zq, .bool], F := fun xs => Zi4 xs.1 xs.2.1 }
theorem Zzh : okE Z1y :=
 ofE (Za Qz (Za Q8 (Za Kx (Za Zqj (Za Ya Zf))))) Zd Tryz.func197 Tryz.call197 .leaf lf (hk fun _ => by kernel_rfl)
abbrev Qbi : FnE := { f := 288, args := [Jw, .int .i64], res := [Jw, .bool], F := fun xs => Zjt xs.1 xs.2.1 }
theorem Z86 : okE Qbi :=
 ofE (Za Zb9 Zf) Zd Tryz.func288 Tryz.call288 .leaf lf (hk fun _ => by kernel_rfl)
abbrev Qja : FnB := { f := 247, args := [.bx 62 (Zq) false, .bx 51 (Z1) false, .sh (.int .i64)], res := .vals [], F := fun xs => Znz xs.1 xs.2.1 xs.2.2.1 }
theorem Zw7 : okB Qja :=
 ofB [0, 1] (Za Z86 Zf) Zd Tryz.func247 Tryz.call247 .leaf lf (hk fun _ => by kernel_rfl)
abbrev Z7x : FnE := { f := 334, args := [Z1], res := [.bool], F := fun xs => Zqc xs.1 }
theorem Z5g : okE Z7x :=
 ofE Zf Zd Tryz.func334 Tryz.call334 .leaf lf (hk fun _ => by kernel_rfl)
abbrev Z7u : FnE := { f := 339, args := [Qt], res := [.bool], F := fun xs => Zlx xs.1 }
theorem Z5e : okE Z7u :=
 ofE (Za W3 Zf) Zd Tryz.func339 Tryz.call339 .leaf lf (hk fun _ => by kernel_rfl)
abbrev Z7w : FnE := { f := 335, args := [Z1], res := [.bool], F := fun xs => Zqb xs.1 }
theorem Z5f : okE Z7w :=
 ofE (Za Z5e Zf) Zd Tryz.func335 Tryz.call335 .leaf lf (hk fun _ => by kernel_rfl)
abbrev Ql9 : FnE := { f := 317, args := [Z1], res := [.bool], F := fun xs => Zs3 xs.1 }
theorem Qko : okE Ql9 :=
 ofE (Za Zof (Za Z5g (Za Z5f Zf))) Zd Tryz.func317 Tryz.call317 .leaf lf (hk fun _ => by kernel_rfl)
abbrev Qfr : FnE := { f := 318, args := [Q4], res := [Q4, .bool], F := fun xs => Zk8 xs.1 }
theorem Qcn : okE Qfr :=
 ofE (Za Zll Zf) Zd Tryz.func318 Tryz.call318 .leaf lf (hk fun _ => by kernel_rfl)
abbrev Qi9 : FnB := { f := 289, args := [.bx 62 (Zq) false, .bx 51 (Z1) false], res := .vals [], F := fun xs => Zq5 xs.1 xs.2.1 }
theorem Qg5 : okB Qi9 :=
 ofB [0, 1] (Za Zoy (Za Qko (Za Zlm (Za Qcn Zf)))) Zd Tryz.func289 Tryz.call289 .leaf lf (hk fun _ => by kernel_rfl)
abbrev Qjb : FnB := { f := 248, args := [.bx 62 (Zq) false, .sh (Z1)], res := .vals [], F := fun xs => Zb1 xs.1 xs.2.1 }
theorem Zd0 : okB Qjb :=
 ofB [0] (Za Ya Zf) (Zn Qg5 Zd) Tryz.func248 Tryz.call248 .leaf lf (hk fun _ => by kernel_rfl)
abbrev Z78 : FnB := { f := 198, args := [.sh (Zq), .sh (.int .i64), .sh (.int .i64)], res := .shr [.str, .bool, Zq], F := fun xs => Zl3 xs.1 xs.2.1 xs.2.2.1 }
theorem Z5p : okB Z78 :=
 ofB [] (Za Qz (Za Q8 (Za Kx Zf))) (Zn Zpp (Zn Zw7 (Zn Zd0 Zd))) Tryz.func198 Tryz.call198 (.seq .leaf (.seq .leaf (.seq .leaf (.seq (.seq .leaf (.cond (.seq .leaf (.frz [8])) .leaf)) (.seq (.frz [10]) (.seq .leaf (.join Z0s (fun v => Zc8 v.1 v.2.1 v.2.2.1 v.2.2.2.1 v.2.2.2.2.1) (.seq .leaf (.cond (.frz [9]) .leaf)) .leaf))))))) ⟨lf, lf, lf, ⟨lf, ⟨lf, trivial⟩, lf⟩, trivial, lf, ⟨lf, trivial, lf⟩, (fun v => by kernel_rfl), lf⟩ (hk fun _ => by kernel_rfl)
abbrev Z4g : FnB := { f := 199, args := [.sh (Zq), .sh (.int .i64), .sh (.int .i64)], res := .shr [Zq, .bool], F := fun xs => Zki xs.1 xs.2.1 xs.2.2.1 }
theorem Z2i : okB Z4g :=
 ofB [] (Za Qz (Za Q8 (Za Kx (Za Zku Zf)))) (Zn Zd0 Zd) Tryz.func199 Tryz.call199 (.seq .leaf (.seq .leaf (.seq .leaf (.seq (.seq .leaf (.cond (.seq .leaf (.frz [6])) .leaf)) (.seq .leaf (.seq (.seq .leaf (.cond (.seq .leaf (.frz [6])) .leaf)) (.seq .leaf (.seq .leaf (.seq (.frz [8, 9]) .leaf))))))))) ⟨lf, lf, lf, ⟨lf, ⟨lf, trivial⟩, lf⟩, lf, ⟨lf, ⟨lf, trivial⟩, lf⟩, lf, lf, trivial, lf⟩ (hk fun _ => by kernel_rfl)
abbrev Qi3 : FnE := { f := 290, args := [.str], res := [.str], F := fun xs => Zq3 xs.1 }
theorem Qg3 : okE Qi3 :=
 ofE Zf Zd Tryz.func290 Tryz.call290 (.seq .leaf (.seq (.block (.loop Z9x (fun N v => Zh5 N v.1) (fun v => Zjx v.1) (fun K1 => .leaf))) (.seq (.block (.loop Z9y (fun N v => Zh6 N v.1) (fun v => Zjy v.1) (fun K2 => .leaf))) .leaf))) ⟨lf, ⟨fun _ => rfl, fun N => ⟨(fun v => by kernel_rfl), lf⟩⟩, ⟨fun _ => rfl, fun N => ⟨(fun v => by kernel_rfl), lf⟩⟩, lf⟩ (hk fun _ => by kernel_rfl)
abbrev Zyu : FnE := { f := 249, args := [Kw, .str], res := [Kw], F := fun xs => Zhr xs.1 xs.2.1 }
theorem Zxs : okE Zyu :=
 ofE (Za Zmf (Za Zmr (Za Zzl (Za Qg3 Zf)))) Zd Tryz.func249 Tryz.call249 (.seq .leaf (.join Zu6 (fun v => Wx v.1 v.2.1 v.2.2.1) .leaf (.seq .leaf (.seq (.seq .leaf (.block (.loop Zu8 (fun N v => Xx N v.1 v.2.1 v.2.2.1 v.2.2.2.1) (fun v => Zcz v.1 v.2.1 v.2.2.1 v.2.2.2.1) (fun K1 => (.seq .leaf (.join Zu7 (fun v => Y8 K1 v.1 v.2.1 v.2.2.1 v.2.2.2.1) .leaf .leaf)))))) .leaf)))) ⟨lf, lf, (fun v => by kernel_rfl), lf, ⟨lf, fun _ => rfl, fun N => ⟨(fun v => by kernel_rfl), lf, lf, (fun v => by kernel_rfl), lf⟩⟩, lf⟩ (hk fun _ => by kernel_rfl)
abbrev Z4h : FnE := { f := 200, args := [Zq, .int .i64, .str], res := [Zq, .bool], F := fun xs => Zkj xs.1 xs.2.1 xs.2.2.1 }
theorem Z2j : okE Z4h :=
 ofE (Za Qz (Za Q8 (Za Kx (Za Zxs (Za Ya Zf))))) Zd Tryz.func200 Tryz.call200 .leaf lf (hk fun _ => by kernel_rfl)
abbrev Qbb : FnE := { f := 319, args := [Jw], res := [.bool], F := fun xs => Zgd xs.1 }
theorem Zng : okE Qbb :=
 ofE (Za Zb9 Zf) Zd Tryz.func319 Tryz.call319 .leaf lf (hk fun _ => by kernel_rfl)
abbrev Z4c : FnE := { f := 320, args := [Jw, .int .i64, .int .i64], res := [Jw, .bool], F := fun xs => Zgo xs.1 xs.2.1 xs.2.2.1 }
theorem Zqm : okE Z4c :=
 ofE (Za Zng (Za Xh Zf)) Zd Tryz.func320 Tryz.call320 (.seq .leaf (.seq .leaf (.join Zx7 (fun v => Zfi v.1 v.2.1 v.2.2.1) .leaf .leaf))) ⟨lf, lf, lf, (fun v => by kernel_rfl), lf⟩ (hk fun _ => by kernel_rfl)
abbrev Qgl : FnE := { f := 291, args := [Zq], res := [Jw, .bool], F := fun xs => Zlg xs.1 }
theorem Zun : okE Qgl :=
 ofE (Za Zng (Za Zqm Zf)) Zd Tryz.func291 Tryz.call291 .leaf lf (hk fun _ => by kernel_rfl)
abbrev Qba : FnE := { f := 321, args := [Q4], res := [.bool], F := fun xs => Zjs xs.1 }
theorem Zsq : okE Qba :=
 ofE (Za Zll Zf) Zd Tryz.func321 Tryz.call321 .leaf lf (hk fun _ => by kernel_rfl)
abbrev Z75 : FnE := { f := 322, args := [Q4], res := [Q4, .bool], F := fun xs => Zl2 xs.1 }
theorem Z5n : okE Z75 :=
 ofE (Za Zsq Zf) Zd Tryz.func322 Tryz.call322 .leaf lf (hk fun _ => by kernel_rfl)
abbrev Qgj : FnE := { f := 292, args := [Q4, .bool], res := [Q4, .bool], F := fun xs => Ze5 xs.1 xs.2.1 }
theorem Zum : okE Qgj :=
 ofE (Za Zsq (Za Z5n Zf)) Zd Tryz.func292 Tryz.call292 .leaf lf (hk fun _ => by kernel_rfl)
abbrev Qbu : FnE := { f := 323, args := [Zq, Z1], res := [Jw, .bool], F := fun xs => Zj8 xs.1 xs.2.1 }
theorem Zsw : okE Qbu :=
 ofE (Za Zng (Za Zqm Zf)) Zd Tryz.func323 Tryz.call323 .leaf lf (hk fun _ => by kernel_rfl)
abbrev Qf2 : FnE := { f := 294, args := [Q4], res := [.bool], F := fun xs => Zla xs.1 }
theorem Zui : okE Qf2 :=
 ofE (Za Va Zf) Zd Tryz.func294 Tryz.call294 .leaf lf (hk fun _ => by kernel_rfl)
abbrev Qbt : FnE := { f := 293, args := [Zq, Z1], res := [.slice 25 (Zr)], F := fun xs => Zn0 xs.1 xs.2.1 }
theorem Z9f : okE Qbt :=
 ofE (Za Zsw (Za Zui Zf)) Zd Tryz.func293 Tryz.call293 (.seq .leaf (.seq .leaf (.join Z24 (fun v => Zeu v.1 v.2.1 v.2.2.1) .leaf (.join Z25 (fun v => Zev v.1 v.2.1 v.2.2.1) .leaf (.seq .leaf (.join Z26 (fun v => Zew v.1 v.2.1) .leaf .leaf)))))) ⟨lf, lf, lf, (fun v => by kernel_rfl), lf, (fun v => by kernel_rfl), lf, lf, (fun v => by kernel_rfl), lf⟩ (hk fun _ => by kernel_rfl)
abbrev Zyq : FnE := { f := 250, args := [Zq], res := [.slice 25 (Zr)], F := fun xs => Zhj xs.1 }
theorem Zxp : okE Zyq :=
 ofE (Za Kx (Za Zun (Za Zum (Za Z9f (Za Zui Zf))))) Zd Tryz.func250 Tryz.call250 (.seq .leaf (.seq .leaf (.seq .leaf (.seq .leaf (.join Zuw (fun v => Wn v.1 v.2.1) .leaf (.seq .leaf (.join Zux (fun v => Wo v.1 v.2.1) .leaf (.seq .leaf (.join Zuy (fun v => Wp v.1 v.2.1) .leaf (.seq (.seq .leaf (.block (.loop Zu1 (fun N v => Ws N v.1 v.2.1 v.2.2.1) (fun v => Zcp v.1 v.2.1 v.2.2.1) (fun K1 => .leaf)))) (.join Zuz (fun v => Wq v.1 v.2.1) .leaf (.join Zu0 (fun v => Wr v.1 v.2.1) .leaf .leaf)))))))))))) ⟨lf, lf, lf, lf, lf, (fun v => by kernel_rfl), lf, lf, (fun v => by kernel_rfl), lf, lf, (fun v => by kernel_rfl), ⟨lf, fun _ => rfl, fun N => ⟨(fun v => by kernel_rfl), lf⟩⟩, lf, (fun v => by kernel_rfl), lf, (fun v => by kernel_rfl), lf⟩ (hk fun _ => by kernel_rfl)
abbrev Qgf : FnE := { f := 336, args := [.int .i64], res := [.int .i64], F := fun xs => Zle xs.1 }
theorem Zul : okE Qgf :=
 ofE Zf Zd Tryz.func336 Tryz.call336 .leaf lf (hk fun _ => by kernel_rfl)
abbrev Z7n : FnE := { f := 337, args := [.int .i64], res := [.str], F := fun xs => Zlr xs.1 }
theorem Z49 : okE Z7n :=
 ofE (Za Zul (Za Zrw Zf)) Zd Tryz.func337 Tryz.call337 (.seq .leaf (.seq .leaf (.seq .leaf (.seq (.seq .leaf (.block (.loop Zz5 (fun N v => Xt N v.1 v.2.1 v.2.2.1 v.2.2.2.1) (fun v => Zf8 v.1 v.2.1 v.2.2.1 v.2.2.2.1) (fun K1 => (.seq .leaf (.seq (.block (.seq .leaf (.join Zz4 (fun v => Kp K1 v.1 v.2.1 v.2.2.1 v.2.2.2.1 v.2.2.2.2.1) .leaf .leaf))) .leaf)))))) .leaf)))) ⟨lf, lf, lf, ⟨lf, fun _ => rfl, fun N => ⟨(fun v => by kernel_rfl), lf, ⟨lf, lf, (fun v => by kernel_rfl), lf⟩, lf⟩⟩, lf⟩ (hk fun _ => by kernel_rfl)
abbrev Z34 : FnE := { f := 324, args := [.slice 3 (.int .i64)], res := [.str], F := fun xs => Xq xs.1 }
theorem Z2c : okE Z34 :=
 ofE (Za Zul (Za Z49 Zf)) Zd Tryz.func324 Tryz.call324 (.seq .leaf (.seq .leaf (.seq (.seq .leaf (.block (.loop Zxz (fun N v => Zbl N v.1 v.2.1 v.2.2.1) (fun v => Ze1 v.1 v.2.1 v.2.2.1) (fun K1 => .leaf)))) .leaf))) ⟨lf, lf, ⟨lf, fun _ => rfl, fun N => ⟨(fun v => by kernel_rfl), lf⟩⟩, lf⟩ (hk fun _ => by kernel_rfl)
abbrev Z33 : FnE := { f := 295, args := [Zr], res := [.str], F := fun xs => Zf7 xs.1 }
theorem Zqk : okE Z33 :=
 ofE (Za Zbe (Za Z2c Zf)) Zd Tryz.func295 Tryz.call295 (.seq .leaf (.seq .leaf (.seq (.seq .leaf (.block (.seq .leaf (.cond .leaf (.seq .leaf (.cond .leaf (.seq .leaf (.cond (.seq .leaf (.join Zxv (fun v => Zfd v.1 v.2.1) .leaf .leaf)) (.join Zxw (fun v => Zfe v.1 v.2.1 v.2.2.1) .leaf (.cond .leaf (.join Zxx (fun v => Zff v.1 v.2.1) .leaf .leaf))))))))))) (.seq .leaf (.join Zxy (fun v => Zfg v.1 v.2.1) .leaf .leaf))))) ⟨lf, lf, ⟨lf, lf, lf, lf, lf, lf, ⟨lf, lf, (fun v => by kernel_rfl), lf⟩, lf, (fun v => by kernel_rfl), lf, lf, (fun v => by kernel_rfl), lf⟩, lf, lf, (fun v => by kernel_rfl), lf⟩ (hk fun _ => by kernel_rfl)
abbrev Qa7 : FnE := { f := 251, args := [Zr], res := [.int .i64], F := fun xs => Zcu xs.1 }
theorem Zne : okE Qa7 :=
 ofE (Za Zqk Zf) Zd Tryz.func251 Tryz.call251 .leaf lf (hk fun _ => by kernel_rfl)
abbrev Z1u : FnE := { f := 296, args := [Q4], res := [Q4], F := fun xs => Zec xs.1 }
theorem Zpn : okE Z1u :=
 ofE (Za Va Zf) Zd Tryz.func296 Tryz.call296 .leaf lf (hk fun _ => by kernel_rfl)
abbrev Qjh : FnB := { f := 297, args := [.sh (Zq), .sh (Z1), .sh (.int .i64)], res := .shr [Z1], F := fun xs => Zq8 xs.1 xs.2.1 xs.2.2.1 }
theorem Qg8 : okB Qjh :=
 ofB [] (Za Zsw (Za Zpn Zf)) Zd Tryz.func297 Tryz.call297 .leaf lf (hk fun _ => by kernel_rfl)
abbrev Z39 : FnE := { f := 252, args := [Zq, Zr], res := [Zq], F := fun xs => Zkg xs.1 xs.2.1 }
theorem Z2g : okE Z39 :=
 ofE (Za Qz (Za Kl (Za Zun (Za Zum (Za Zpn (Za Q8 (Za Ya Zf))))))) (Zn Qg8 Zd) Tryz.func252 Tryz.call252 (.seq .leaf (.seq .leaf (.seq .leaf (.seq (.seq .leaf (.block (.seq .leaf (.cond .leaf (.seq .leaf (.cond .leaf (.seq .leaf (.cond .leaf (.seq .leaf (.cond .leaf (.seq .leaf (.seq .leaf (.cond (.frz [12]) .leaf))))))))))))) .leaf)))) ⟨lf, lf, lf, ⟨lf, lf, lf, lf, lf, lf, lf, lf, lf, lf, lf, trivial, lf⟩, lf⟩ (hk fun _ => by kernel_rfl)
abbrev Z8b : FnE := { f := 298, args := [Zq], res := [.slice 332 (Q6)], F := fun xs => Zl5 xs.1 }
theorem Z5r : okE Z8b :=
 ofE Zf Zd Tryz.func298 Tryz.call298 (.seq .leaf (.seq .leaf (.seq (.seq .leaf (.block (.loop Z0w (fun N v => J4 N v.1 v.2.1 v.2.2.1) (fun v => Zgw v.1 v.2.1 v.2.2.1) (fun K1 => (.seq .leaf (.join Z0v (fun v => Zdb K1 v.1 v.2.1 v.2.2.1) .leaf .leaf)))))) .leaf))) ⟨lf, lf, ⟨lf, fun _ => rfl, fun N => ⟨(fun v => by kernel_rfl), lf, lf, (fun v => by kernel_rfl), lf⟩⟩, lf⟩ (hk fun _ => by kernel_rfl)
abbrev Z8c : FnE := { f := 299, args := [.slice 332 (Q6), .int .i64], res := [.slice 332 (Q6)], F := fun xs => Zl6 xs.1 xs.2.1 }
theorem Z5s : okE Z8c :=
 ofE Zf Zd Tryz.func299 Tryz.call299 (.seq .leaf (.seq .leaf (.seq (.seq .leaf (.block (.loop Z0y (fun N v => J5 N v.1 v.2.1 v.2.2.1 v.2.2.2.1) (fun v => Zgx v.1 v.2.1 v.2.2.1 v.2.2.2.1) (fun K1 => (.seq .leaf (.join Z0x (fun v => Zdc K1 v.1 v.2.1 v.2.2.1 v.2.2.2.1) .leaf .leaf)))))) .leaf))) ⟨lf, lf, ⟨lf, fun _ => rfl, fun N => ⟨(fun v => by kernel_rfl), lf, lf, (fun v => by kernel_rfl), lf⟩⟩, lf⟩ (hk fun _ => by kernel_rfl)
abbrev Zyo : FnE := { f := 338, args := [.slice 332 (Q6)], res := [.bool], F := fun xs => Zhh xs.1 }
theorem Zxn : okE Zyo :=
 ofE (Za Qw (Za Zmf Zf)) Zd Tryz.func338 Tryz.call338 (.seq .leaf (.seq (.seq .leaf (.block (.loop Zuu (fun N v => Wm N v.1 v.2.1) (fun v => Zcn v.1 v.2.1) (fun K1 => .leaf)))) .leaf)) ⟨lf, ⟨lf, fun _ => rfl, fun N => ⟨(fun v => by kernel_rfl), lf⟩⟩, lf⟩ (hk fun _ => by kernel_rfl)
abbrev Z70 : FnE := { f := 325, args := [.slice 332 (Q6)], res := [.slice 3 (.int .i64)], F := fun xs => Zlz xs.1 }
theorem Z5j : okE Z70 :=
 ofE (Za Zxn Zf) Zd Tryz.func325 Tryz.call325 (.seq .leaf (.seq .leaf (.seq .leaf (.seq (.seq .leaf (.block (.loop Z0f (fun N v => Ks N v.1 v.2.1 v.2.2.1 v.2.2.2.1) (fun v => Zgc v.1 v.2.1 v.2.2.1 v.2.2.2.1) (fun K1 => (.seq .leaf (.join Z0d (fun v => Zc0 K1 v.1 v.2.1 v.2.2.1 v.2.2.2.1) (.block (.join Z0e (fun v => Zc1 K1 v.1 v.2.1 v.2.2.1 v.2.2.2.1) .leaf .leaf)) .leaf)))))) .leaf)))) ⟨lf, lf, lf, ⟨lf, fun _ => rfl, fun N => ⟨(fun v => by kernel_rfl), lf, ⟨lf, (fun v => by kernel_rfl), lf⟩, (fun v => by kernel_rfl), lf⟩⟩, lf⟩ (hk fun _ => by kernel_rfl)
abbrev Qgh : FnE := { f := 326, args := [.slice 3 (.int .i64), .int .i64], res := [.int .i64], F := fun xs => Zo8 xs.1 xs.2.1 }
theorem Qcz : okE Qgh :=
 ofE Zf Zd Tryz.func326 Tryz.call326 (.seq .leaf (.seq (.seq .leaf (.block (.loop Z6n (fun N v => Zgs N v.1 v.2.1 v.2.2.1) (fun v => Ziw v.1 v.2.1 v.2.2.1) (fun K1 => .leaf)))) .leaf)) ⟨lf, ⟨lf, fun _ => rfl, fun N => ⟨(fun v => by kernel_rfl), lf⟩⟩, lf⟩ (hk fun _ => by kernel_rfl)
abbrev Z71 : FnE := { f := 300, args := [.slice 332 (Q6), .int .i64], res := [.int .i64], F := fun xs => Zl0 xs.1 xs.2.1 }
theorem Z5k : okE Z71 :=
 ofE (Za Z5j (Za Qcz Zf)) Zd Tryz.func300 Tryz.call300 (.seq .leaf (.seq .leaf (.seq .leaf (.seq (.seq .leaf (.block (.loop Z0h (fun N v => Kt N v.1 v.2.1 v.2.2.1 v.2.2.2.1 v.2.2.2.2.1) (fun v => Zgg v.1 v.2.1 v.2.2.1 v.2.2.2.1 v.2.2.2.2.1) (fun K1 => (.seq .leaf (.seq (.block (.seq .leaf (.block (.loop Z0i (fun N v => J3 K1 N v.1 v.2.1 v.2.2.1 v.2.2.2.1 v.2.2.2.2.1 v.2.2.2.2.2.1) (fun v => Zgh v.1 v.2.1 v.2.2.1 v.2.2.2.1 v.2.2.2.2.1 v.2.2.2.2.2.1) (fun K2 => (.seq .leaf (.join Z0g (fun v => Zc4 K1 K2 v.1 v.2.1 v.2.2.1 v.2.2.2.1 v.2.2.2.2.1 v.2.2.2.2.2.1) .leaf .leaf))))))) .leaf)))))) .leaf)))) ⟨lf, lf, lf, ⟨lf, fun _ => rfl, fun N => ⟨(fun v => by kernel_rfl), lf, ⟨lf, fun _ => rfl, fun N => ⟨(fun v => by kernel_rfl), lf, lf, (fun v => by kernel_rfl), lf⟩⟩, lf⟩⟩, lf⟩ (hk fun _ => by kernel_rfl)
abbrev Z7l : FnE := { f := 75, args := [Q4], res := [.int .i64], F := fun xs => V6 xs.1 }
theorem Zrq : okE Z7l :=
 ofE (Za Va Zf) Zd Tryz.func75 Tryz.call75 .leaf lf (hk fun _ => by kernel_rfl)
abbrev Z74 : FnE := { f := 304, args := [.int .i64, Vg], res := [Zr], F := fun xs => Zqd xs.1 xs.2.1 }
theorem Zrs : okE Z74 :=
 ofE Zf Zd Tryz.func304 Tryz.call304 .leaf lf (hk fun _ => by kernel_rfl)
abbrev Qga : FnE := { f := 301, args := [Zq, .int .i64, .int .i64], res := [Vg, .bool], F := fun xs => Zo7 xs.1 xs.2.1 xs.2.2.1 }
theorem Qcu : okE Qga :=
 ofE (Za Q8 (Za Kl (Za Zrq (Za Zsu (Za Zrs (Za Zne Zf)))))) Zd Tryz.func301 Tryz.call301 (.seq .leaf (.seq .leaf (.seq .leaf (.seq .leaf (.seq (.seq .leaf (.block (.loop Z6m (fun N v => Zgn N v.1 v.2.1 v.2.2.1 v.2.2.2.1 v.2.2.2.2.1 v.2.2.2.2.2.1) (fun v => Ziv v.1 v.2.1 v.2.2.1 v.2.2.2.1 v.2.2.2.2.1 v.2.2.2.2.2.1) (fun K1 => .leaf)))) .leaf))))) ⟨lf, lf, lf, lf, ⟨lf, fun _ => rfl, fun N => ⟨(fun v => by kernel_rfl), lf⟩⟩, lf⟩ (hk fun _ => by kernel_rfl)
abbrev Z4b : FnE := { f := 327, args := [Q4], res := [Q4], F := fun xs => Zgi xs.1 }
theorem Z2h : okE Z4b :=
 ofE (Za Va Zf) Zd Tryz.func327 Tryz.call327 .leaf lf (hk fun _ => by kernel_rfl)
abbrev Qgk : FnB := { f := 302, args := [.bx 62 (Zq) true, .sh (.int .i64)], res := .vals [], F := fun xs => Zpa xs.1 xs.2.1 }
theorem Qc1 : okB Qgk :=
 ofB [0] (Za Q8 (Za Z2h (Za Ya Zf))) Zd Tryz.func302 Tryz.call302 .leaf lf (hk fun _ => by kernel_rfl)
abbrev Qbn : FnE := { f := 328, args := [Q4, .int .i64], res := [Q4, .bool], F := fun xs => Zjv xs.1 xs.2.1 }
theorem Z9a : okE Qbn :=
 ofE (Za Va Zf) Zd Tryz.func328 Tryz.call328 .leaf lf (hk fun _ => by kernel_rfl)
abbrev Qa9 : FnE := { f := 303, args := [Zq, .int .i64, Vg], res := [Zq, .bool], F := fun xs => Zjr xs.1 xs.2.1 xs.2.2.1 }
theorem Z85 : okE Qa9 :=
 ofE (Za Qz (Za Q8 (Za Kl (Za Zsv (Za Z9a (Za Ya Zf)))))) Zd Tryz.func303 Tryz.call303 .leaf lf (hk fun _ => by kernel_rfl)
abbrev Qji : FnB := { f := 253, args := [.bx 62 (Zq) true, .mv (.slice 25 (Zr)), .sh (.int .i64)], res := .vals [.slice 25 (Zr)], F := fun xs => Zq9 xs.1 xs.2.1 xs.2.2.1 }
theorem Qg9 : okB Qji :=
 ofB [0] (Za Z5r (Za Z5s (Za Z5k (Za Qcu (Za Z85 (Za Zrs (Za Zne Zf))))))) (Zn Qc1 Zd) Tryz.func253 Tryz.call253 (.seq .leaf (.seq .leaf (.seq (.seq .leaf (.block (.loop Z95 (fun N v => V8 N v.1 v.2.1 v.2.2.1 v.2.2.2.1 v.2.2.2.2.1) (fun v => Zj6 v.1 v.2.1 v.2.2.1 v.2.2.2.1 v.2.2.2.2.1) (fun K1 => (.seq .leaf (.join Z93 (fun v => Zh9 K1 v.1 v.2.1 v.2.2.1 v.2.2.2.1 v.2.2.2.2.1) (.block (.seq .leaf (.seq (.seq .leaf (.block (.loop Z96 (fun N v => Zia K1 N v.1 v.2.1 v.2.2.1 v.2.2.2.1 v.2.2.2.2.1 v.2.2.2.2.2.1 v.2.2.2.2.2.2.1) (fun v => Zj7 v.1 v.2.1 v.2.2.1 v.2.2.2.1 v.2.2.2.2.1 v.2.2.2.2.2.1 v.2.2.2.2.2.2.1) (fun K2 => .leaf)))) (.seq .leaf (.seq .leaf (.seq .leaf (.seq .leaf (.join Z94 (fun v => Yf K1 v.1 v.2.1 v.2.2.1 v.2.2.2.1 v.2.2.2.2.1 v.2.2.2.2.2.1 v.2.2.2.2.2.2.1 v.2.2.2.2.2.2.2.1 v.2.2.2.2.2.2.2.2.1) .leaf .leaf)))))))) .leaf)))))) .leaf))) ⟨lf, lf, ⟨lf, fun _ => rfl, fun N => ⟨(fun v => by kernel_rfl), lf, ⟨lf, ⟨lf, fun _ => rfl, fun N => ⟨(fun v => by kernel_rfl), lf⟩⟩, lf, lf, lf, lf, lf, (fun v => by kernel_rfl), lf⟩, (fun v => by kernel_rfl), lf⟩⟩, lf⟩ (hk fun _ => by kernel_rfl)
abbrev Zyr : FnE := { f := 254, args := [.slice 25 (Zr)], res := [.str], F := fun xs => Zhm xs.1 }
theorem Zxq : okE Zyr :=
 ofE (Za Zqk Zf) Zd Tryz.func254 Tryz.call254 (.seq .leaf (.seq .leaf (.seq (.seq .leaf (.block (.loop Zu2 (fun N v => Wt N v.1 v.2.1 v.2.2.1) (fun v => Zcr v.1 v.2.1 v.2.2.1) (fun K1 => .leaf)))) .leaf))) ⟨lf, lf, ⟨lf, fun _ => rfl, fun N => ⟨(fun v => by kernel_rfl), lf⟩⟩, lf⟩ (hk fun _ => by kernel_rfl)
abbrev Z7m : FnB := { f := 201, args := [.sh (Zq), .sh (.int .i64)], res := .shr [.str, .int .i64, Zq], F := fun xs => Zlq xs.1 xs.2.1 }
theorem Z48 : okB Z7m :=
 ofB [] (Za Qz (Za Kx (Za Xh (Za Zxp (Za Zne (Za Z2g (Za Zxq Zf))))))) (Zn Qg9 Zd) Tryz.func201 Tryz.call201 (.seq .leaf (.seq .leaf (.seq (.seq .leaf (.cond (.seq .leaf (.frz [6])) .leaf)) (.seq .leaf (.seq .leaf (.seq .leaf (.seq (.seq .leaf (.block (.loop Zz3 (fun N v => J2 N v.1 v.2.1 v.2.2.1 v.2.2.2.1 v.2.2.2.2.1 v.2.2.2.2.2.1 v.2.2.2.2.2.2.1) (fun v => Zf6 v.1 v.2.1 v.2.2.1 v.2.2.2.1 v.2.2.2.2.1 v.2.2.2.2.2.1 v.2.2.2.2.2.2.1) (fun K1 => (.seq .leaf (.join Zz2 (fun v => Zcq K1 v.1 v.2.1 v.2.2.1 v.2.2.2.1 v.2.2.2.2.1 v.2.2.2.2.2.1 v.2.2.2.2.2.2.1) .leaf .leaf)))))) (.seq .leaf (.seq (.seq .leaf (.cond (.seq .leaf (.frz [6])) .leaf)) (.seq (.frz [8]) (.seq .leaf (.seq .leaf (.frz [6]))))))))))))) ⟨lf, lf, ⟨lf, ⟨lf, trivial⟩, lf⟩, lf, lf, lf, ⟨lf, fun _ => rfl, fun N => ⟨(fun v => by kernel_rfl), lf, lf, (fun v => by kernel_rfl), lf⟩⟩, lf, ⟨lf, ⟨lf, trivial⟩, lf⟩, trivial, lf, lf, trivial⟩ (hk fun _ => by kernel_rfl)
abbrev Qiv : FnE := { f := 330, args := [.int .i64], res := [.int .i64], F := fun xs => Znt xs.1 }
theorem Qgz : okE Qiv :=
 ofE (Za Qw Zf) Zd Tryz.func330 Tryz.call330 .leaf lf (hk fun _ => by kernel_rfl)
abbrev Qgd : FnE := { f := 329, args := [Q4, .int .i64], res := [Q4, .int .i64, .bool], F := fun xs => Zij xs.1 xs.2.1 }
theorem Qcx : okE Qgd :=
 ofE (Za Zll Zf) Zd Tryz.func329 Tryz.call329 .leaf lf (hk fun _ => by kernel_rfl)
abbrev Qi7 : FnB := { f := 331, args := [.bx 62 (Zq) true, .sh (.int .i64), .sh (.int .i64)], res := .vals [], F := fun xs => Zq4 xs.1 xs.2.1 xs.2.2.1 }
theorem Qg4 : okB Qi7 :=
 ofB [0] (Za Znh (Za Ya Zf)) Zd Tryz.func331 Tryz.call331 (.seq .leaf (.block (.loop Z91 (fun N v => Xs N v.1 v.2.1 v.2.2.1) (fun v => Zj0 v.1 v.2.1 v.2.2.1) (fun K1 => (.seq .leaf (.seq (.block (.join Z90 (fun v => Y0 K1 v.1 v.2.1 v.2.2.1 v.2.2.2.1) .leaf .leaf)) .leaf)))))) ⟨lf, fun _ => rfl, fun N => ⟨(fun v => by kernel_rfl), lf, ⟨lf, (fun v => by kernel_rfl), lf⟩, lf⟩⟩ (hk fun _ => by kernel_rfl)
abbrev Z1x : FnE := { f := 305, args := [Zq, .int .i64], res := [Zq, .int .i64], F := fun xs => Vp xs.1 xs.2.1 }
theorem Zd8 : okE Z1x :=
 ofE (Za Qz (Za Kl (Za Qw (Za Zme (Za Zoy (Za Zlm (Za Qgz (Za Qcx Zf)))))))) (Zn Qg4 Zd) Tryz.func305 Tryz.call305 (.seq .leaf (.seq .leaf (.seq .leaf (.seq .leaf (.seq .leaf (.seq .leaf (.join Zwn (fun v => Zao v.1 v.2.1 v.2.2.1 v.2.2.2.1 v.2.2.2.2.1) .leaf (.join Zwo (fun v => Zp v.1 v.2.1 v.2.2.1 v.2.2.2.1 v.2.2.2.2.1 v.2.2.2.2.2.1 v.2.2.2.2.2.2.1) .leaf (.seq .leaf (.join Zwp (fun v => Zap v.1 v.2.1 v.2.2.1 v.2.2.2.1) .leaf .leaf)))))))))) ⟨lf, lf, lf, lf, lf, lf, lf, (fun v => by kernel_rfl), lf, (fun v => by kernel_rfl), lf, lf, (fun v => by kernel_rfl), lf⟩ (hk fun _ => by kernel_rfl)
abbrev Qf4 : FnE := { f := 332, args := [Qt, .int .i64], res := [.int .i64], F := fun xs => Zo4 xs.1 xs.2.1 }
theorem Qcq : okE Qf4 :=
 ofE (Za W3 (Za Qw Zf)) Zd Tryz.func332 Tryz.call332 .leaf lf (hk fun _ => by kernel_rfl)
abbrev Qgc : FnE := { f := 333, args := [Jw, .int .i64], res := [Jw, .bool], F := fun xs => Zld xs.1 xs.2.1 }
theorem Qcw : okE Qgc :=
 ofE (Za Zb9 Zf) Zd Tryz.func333 Tryz.call333 .leaf lf (hk fun _ => by kernel_rfl)
abbrev Qi8 : FnB := { f := 306, args := [.bx 62 (Zq) false, .bx 51 (Z1) false, .sh (.int .i64)], res := .vals [.int .i64], F := fun xs => Zny xs.1 xs.2.1 xs.2.2.1 }
theorem Zw6 : okB Qi8 :=
 ofB [0, 1] (Za Qcq (Za Qcw Zf)) Zd Tryz.func306 Tryz.call306 .leaf lf (hk fun _ => by kernel_rfl)
abbrev Z7q : FnB := { f := 255, args := [.sh (Zq), .sh (Zr)], res := .shr [Zq, .int .i64], F := fun xs => Zlt xs.1 xs.2.1 }
theorem Z5b : okB Z7q :=
 ofB [] (Za Kl (Za Zbe (Za Qz (Za Zd7 (Za Zd8 (Za Q8 (Za Zqn Zf))))))) (Zn Zw6 (Zn Zd0 Zd)) Tryz.func255 Tryz.call255 (.seq .leaf (.seq (.seq .leaf (.cond (.seq .leaf (.frz [4])) .leaf)) (.seq (.seq .leaf (.cond (.seq .leaf (.frz [4])) .leaf)) (.seq .leaf (.seq (.seq .leaf (.cond (.seq .leaf (.frz [4])) .leaf)) (.seq .leaf (.seq .leaf (.seq (.frz [6, 8]) (.seq (.seq .leaf (.cond (.seq .leaf (.frz [4])) .leaf)) (.seq (.seq .leaf (.cond (.seq .leaf (.frz [4])) .leaf)) (.seq .leaf (.seq (.frz [8]) .leaf)))))))))))) ⟨lf, ⟨lf, ⟨lf, trivial⟩, lf⟩, ⟨lf, ⟨lf, trivial⟩, lf⟩, lf, ⟨lf, ⟨lf, trivial⟩, lf⟩, lf, lf, trivial, ⟨lf, ⟨lf, trivial⟩, lf⟩, ⟨lf, ⟨lf, trivial⟩, lf⟩, lf, trivial, lf⟩ (hk fun _ => by kernel_rfl)
abbrev Z38 : FnB := { f := 256, args := [.sh (Zq), .sh (Zr)], res := .shr [Zq, .int .i64], F := fun xs => Zkf xs.1 xs.2.1 }
theorem Z2f : okB Z38 :=
 ofB [] (Za Kl (Za Zbe (Za Qz (Za Zd7 (Za Zd8 (Za Q8 (Za Zpq Zf))))))) (Zn Zw6 (Zn Zw7 (Zn Zd0 Zd))) Tryz.func256 Tryz.call256 (.seq .leaf (.seq (.seq .leaf (.cond (.seq .leaf (.frz [4])) .leaf)) (.seq (.seq .leaf (.cond (.seq .leaf (.frz [4])) .leaf)) (.seq .leaf (.seq (.seq .leaf (.cond (.seq .leaf (.frz [4])) .leaf)) (.seq .leaf (.seq .leaf (.seq (.frz [6, 8]) (.seq (.seq .leaf (.cond (.seq .leaf (.frz [4])) .leaf)) (.seq (.seq .leaf (.cond (.seq .leaf (.frz [4])) .leaf)) (.join Zx6 (fun v => Zbo v.1 v.2.1 v.2.2.1 v.2.2.2.1) .leaf (.seq .leaf (.seq (.frz [8]) .leaf))))))))))))) ⟨lf, ⟨lf, ⟨lf, trivial⟩, lf⟩, ⟨lf, ⟨lf, trivial⟩, lf⟩, lf, ⟨lf, ⟨lf, trivial⟩, lf⟩, lf, lf, trivial, ⟨lf, ⟨lf, trivial⟩, lf⟩, ⟨lf, ⟨lf, trivial⟩, lf⟩, lf, (fun v => by kernel_rfl), lf, trivial, lf⟩ (hk fun _ => by kernel_rfl)
abbrev Z7r : FnB := { f := 257, args := [.sh (Zq), .sh (Zr)], res := .shr [Zq, .int .i64], F := fun xs => Zlu xs.1 xs.2.1 }
theorem Z5c : okB Z7r :=
 ofB [] (Za Kl (Za Zbe (Za Qz (Za Znd (Za Zd8 (Za Q8 (Za Zku Zf))))))) (Zn Zd0 Zd) Tryz.func257 Tryz.call257 (.seq .leaf (.seq (.seq .leaf (.cond (.seq .leaf (.frz [4])) .leaf)) (.seq (.seq .leaf (.cond (.seq .leaf (.frz [4])) .leaf)) (.seq .leaf (.seq (.seq .leaf (.cond (.seq .leaf (.frz [4])) .leaf)) (.seq .leaf (.seq .leaf (.join Zz7 (fun v => Zcv v.1 v.2.1 v.2.2.1) .leaf (.seq (.frz [6, 8]) .leaf))))))))) ⟨lf, ⟨lf, ⟨lf, trivial⟩, lf⟩, ⟨lf, ⟨lf, trivial⟩, lf⟩, lf, ⟨lf, ⟨lf, trivial⟩, lf⟩, lf, lf, lf, (fun v => by kernel_rfl), trivial, lf⟩ (hk fun _ => by kernel_rfl)
abbrev Z77 : FnE := { f := 307, args := [Q4, .int .i64], res := [Q4], F := fun xs => Zh4 xs.1 xs.2.1 }
theorem Zrt : okE Z77 :=
 ofE (Za Va (Za Qw Zf)) Zd Tryz.func307 Tryz.call307 .leaf lf (hk fun _ => by kernel_rfl)
abbrev Z76 : FnE := { f := 308, args := [Zi7, .int .i64], res := [Zi7], F := fun xs => Zh3 xs.1 xs.2.1 }
theorem Z5o : okE Z76 :=
 ofE (Za Zp3 Zf) Zd Tryz.func308 Tryz.call308 .leaf lf (hk fun _ => by kernel_rfl)
abbrev Qgi : FnE := { f := 309, args := [Zq, Zr], res := [Zq, .int .i64], F := fun xs => Zo9 xs.1 xs.2.1 }
theorem Qc0 : okE Qgi :=
 ofE (Za Znd (Za Zd7 (Za Qz (Za Zd8 (Za Q8 (Za Zrt (Za Ya Zf))))))) Zd Tryz.func309 Tryz.call309 (.seq .leaf (.seq .leaf (.join Z6o (fun v => Zgv v.1 v.2.1 v.2.2.1 v.2.2.2.1) .leaf (.seq .leaf (.seq .leaf (.seq .leaf (.join Z6p (fun v => Zkl v.1 v.2.1) .leaf .leaf))))))) ⟨lf, lf, lf, (fun v => by kernel_rfl), lf, lf, lf, lf, (fun v => by kernel_rfl), lf⟩ (hk fun _ => by kernel_rfl)
abbrev Z37 : FnE := { f := 258, args := [Zq, Zr], res := [Zq, .int .i64], F := fun xs => Zke xs.1 xs.2.1 }
theorem Z2e : okE Z37 :=
 ofE (Za Qz (Za Kl (Za Zbe (Za Zrt (Za Z5o (Za Qc0 Zf)))))) Zd Tryz.func258 Tryz.call258 (.seq .leaf (.seq .leaf (.seq .leaf (.seq (.seq .leaf (.block (.seq .leaf (.cond .leaf (.seq .leaf (.cond (.join Zx3 (fun v => Zfh v.1 v.2.1) .leaf .leaf) (.join Zx4 (fun v => Zbm v.1 v.2.1 v.2.2.1 v.2.2.2.1 v.2.2.2.2.1 v.2.2.2.2.2.1) .leaf (.cond .leaf (.join Zx5 (fun v => Zbn v.1 v.2.1 v.2.2.1 v.2.2.2.1 v.2.2.2.2.1) .leaf .leaf))))))))) .leaf)))) ⟨lf, lf, lf, ⟨lf, lf, lf, lf, ⟨lf, (fun v => by kernel_rfl), lf⟩, lf, (fun v => by kernel_rfl), lf, lf, (fun v => by kernel_rfl), lf⟩, lf⟩ (hk fun _ => by kernel_rfl)
abbrev Z36 : FnB := { f := 202, args := [.sh (Zq), .sh (Zr)], res := .shr [Zq, .int .i64], F := fun xs => Zkd xs.1 xs.2.1 }
theorem Z2d : okB Z36 :=
 ofB [] (Za Qz (Za Z2e Zf)) (Zn Z5b (Zn Z2f (Zn Z5c Zd))) Tryz.func202 Tryz.call202 (.seq .leaf (.seq .leaf (.seq .leaf (.join Zx2 (fun v => V2 v.1 v.2.1 v.2.2.1) .leaf .leaf)))) ⟨lf, lf, lf, lf, (fun v => by kernel_rfl), lf⟩ (hk fun _ => by kernel_rfl)
abbrev Qf7 : FnE := { f := 259, args := [Zq, .int .i64], res := [Wz, .bool], F := fun xs => Zlb xs.1 xs.2.1 }
theorem Zuj : okE Qf7 :=
 ofE Zf Zd Tryz.func259 Tryz.call259 (.seq .leaf (.seq (.seq .leaf (.block (.loop Z6h (fun N v => Zgj N v.1 v.2.1 v.2.2.1 v.2.2.2.1) (fun v => Zit v.1 v.2.1 v.2.2.1 v.2.2.2.1) (fun K1 => .leaf)))) .leaf)) ⟨lf, ⟨lf, fun _ => rfl, fun N => ⟨(fun v => by kernel_rfl), lf⟩⟩, lf⟩ (hk fun _ => by kernel_rfl)
abbrev Qjk : FnB := { f := 260, args := [.bx 62 (Zq) false, .sh (.int .i64)], res := .vals [], F := fun xs => Zn1 xs.1 xs.2.1 }
theorem Zw9 : okB Qjk :=
 ofB [0] Zf Zd Tryz.func260 Tryz.call260 (.seq .leaf (.seq (.seq .leaf (.block (.loop Qab (fun N v => Zbg N v.1 v.2.1 v.2.2.1 v.2.2.2.1) (fun v => Zj9 v.1 v.2.1 v.2.2.1 v.2.2.2.1) (fun K1 => (.seq .leaf (.join Qaa (fun v => Zie K1 v.1 v.2.1 v.2.2.1 v.2.2.2.1) .leaf .leaf)))))) .leaf)) ⟨lf, ⟨lf, fun _ => rfl, fun N => ⟨(fun v => by kernel_rfl), lf, lf, (fun v => by kernel_rfl), lf⟩⟩, lf⟩ (hk fun _ => by kernel_rfl)
abbrev Qgm : FnE := { f := 310, args := [Zr], res := [Vg], F := fun xs => Ztt xs.1 }
theorem Zuo : okE Qgm :=
 ofE Zf Zd Tryz.func310 Tryz.call310 .leaf lf (hk fun _ => by kernel_rfl)
abbrev Qjl : FnB := { f := 261, args := [.bx 62 (Zq) false, .sh (Zr)], res := .vals [], F := fun xs => Zrb xs.1 xs.2.1 }
theorem Qhb : okB Qjl :=
 ofB [0] (Za Q8 (Za Zdj (Za Zuo (Za Zsp (Za Ya Zf))))) Zd Tryz.func261 Tryz.call261 (.seq .leaf (.seq .leaf (.join Qac (fun v => Yg v.1 v.2.1 v.2.2.1 v.2.2.2.1) .leaf (.seq .leaf (.join Qad (fun v => V9 v.1 v.2.1) .leaf .leaf))))) ⟨lf, lf, lf, (fun v => by kernel_rfl), lf, lf, (fun v => by kernel_rfl), lf⟩ (hk fun _ => by kernel_rfl)
abbrev Z7z : FnB := { f := 203, args := [.sh (Zq), .sh (.int .i64)], res := .shr [Zq, .bool], F := fun xs => Zly xs.1 xs.2.1 }
theorem Z5i : okB Z7z :=
 ofB [] (Za Qz (Za Zuj (Za Kx Zf))) (Zn Zw9 (Zn Qhb Zd)) Tryz.func203 Tryz.call203 (.seq .leaf (.seq .leaf (.seq .leaf (.seq (.seq .leaf (.cond (.seq .leaf (.frz [4])) .leaf)) (.seq (.frz [6]) (.seq (.seq .leaf (.block (.loop Z0c (fun N v => Zcy N v.1 v.2.1 v.2.2.1 v.2.2.2.1) (fun v => Zgb v.1 v.2.1 v.2.2.1 v.2.2.2.1) (fun K1 => .leaf)))) .leaf)))))) ⟨lf, lf, lf, ⟨lf, ⟨lf, trivial⟩, lf⟩, trivial, ⟨lf, fun _ => rfl, fun N => ⟨(fun v => by kernel_rfl), lf⟩⟩, lf⟩ (hk fun _ => by kernel_rfl)
abbrev Qfp : FnE := { f := 311, args := [Zy], res := [Zy, .bool], F := fun xs => Zo1 xs.1 }
theorem Qcm : okE Qfp :=
 ofE (Za Zam (Za K5 Zf)) Zd Tryz.func311 Tryz.call311 .leaf lf (hk fun _ => by kernel_rfl)
abbrev Qmk : FnB := { f := 262, args := [.bx 62 (Zq) false, .sh (Zr)], res := .vals [], F := fun xs => Zs8 xs.1 xs.2.1 }
theorem Qku : okB Qmk :=
 ofB [0] (Za Q8 (Za Zdj (Za Zuo (Za Zue (Za Qcm Zf))))) (Zn Zd0 Zd) Tryz.func262 Tryz.call262 (.seq .leaf (.join Qds (fun v => Y1 v.1 v.2.1 v.2.2.1 v.2.2.2.1) .leaf (.seq .leaf (.join Qdt (fun v => Zav v.1 v.2.1) .leaf (.frz [4]))))) ⟨lf, lf, (fun v => by kernel_rfl), lf, lf, (fun v => by kernel_rfl), trivial⟩ (hk fun _ => by kernel_rfl)
abbrev Qa2 : FnB := { f := 204, args := [.sh (Zq), .sh (.int .i64)], res := .shr [Zq, .bool], F := fun xs => Znq xs.1 xs.2.1 }
theorem Z82 : okB Qa2 :=
 ofB [] (Za Qz (Za Zuj (Za Kx Zf))) (Zn Zw9 (Zn Qku Zd)) Tryz.func204 Tryz.call204 (.seq .leaf (.seq .leaf (.seq .leaf (.seq (.seq .leaf (.cond (.seq .leaf (.frz [4])) .leaf)) (.seq (.frz [6]) (.seq (.seq .leaf (.block (.loop Z2l (fun N v => Zea N v.1 v.2.1 v.2.2.1 v.2.2.2.1) (fun v => Zhg v.1 v.2.1 v.2.2.1 v.2.2.2.1) (fun K1 => .leaf)))) .leaf)))))) ⟨lf, lf, lf, ⟨lf, ⟨lf, trivial⟩, lf⟩, trivial, ⟨lf, fun _ => rfl, fun N => ⟨(fun v => by kernel_rfl), lf⟩⟩, lf⟩ (hk fun _ => by kernel_rfl)
abbrev Qjj : FnB := { f := 146, args := [.bx 110 (Xg) false, .sh (Zq)], res := .shr [Zq], F := fun xs => Zra xs.1 xs.2.1 }
theorem Qha : okB Qjj :=
 ofB [0] (Za Z5l (Za Z2k (Za Zzh (Za Z2j Zf)))) (Zn Qh (Zn Zal (Zn Zjj (Zn Z5p (Zn Z2i (Zn Zrv (Zn Z48 (Zn Zln (Zn Z2d (Zn Z5i (Zn Z82 Zd))))))))))) Tryz.func146 Tryz.call146 (.seq .leaf (.seq .leaf (.join Z97 (fun v => Zib v.1 v.2.1 v.2.2.1 v.2.2.2.1) .leaf (.seq .leaf (.seq (.seq .leaf (.block (.seq .leaf (.cond .leaf (.join Z98 (fun v => Zic v.1 v.2.1 v.2.2.1 v.2.2.2.1 v.2.2.2.2.1 v.2.2.2.2.2.1 v.2.2.2.2.2.2.1) .leaf (.cond .leaf (.seq .leaf (.cond .leaf (.seq .leaf (.cond .leaf (.seq .leaf (.cond .leaf (.join Z99 (fun v => Zid v.1 v.2.1 v.2.2.1 v.2.2.2.1 v.2.2.2.2.1 v.2.2.2.2.2.1) .leaf .leaf))))))))))))) (.seq .leaf (.frz [4]))))))) ⟨lf, lf, lf, (fun v => by kernel_rfl), lf, ⟨lf, lf, lf, lf, (fun v => by kernel_rfl), lf, lf, lf, lf, lf, lf, lf, lf, (fun v => by kernel_rfl), lf⟩, lf, trivial⟩ (hk fun _ => by kernel_rfl)
abbrev Qjg : FnB := { f := 98, args := [.bx 110 (Xg) false], res := .shr [Zq], F := fun xs => Zq7 xs.1 }
theorem Qg7 : okB Qjg :=
 ofB [0] (Za Qg1 Zf) (Zn Zal (Zn Zw5 (Zn Qh (Zn Qha Zd)))) Tryz.func98 Tryz.call98 (.seq .leaf (.seq .leaf (.seq (.seq .leaf (.block (.loop Z92 (fun N v => Zh8 N v.1 v.2.1 v.2.2.1 v.2.2.2.1) (fun v => Zj5 v.1 v.2.1 v.2.2.1 v.2.2.2.1) (fun K1 => (.seq .leaf (.seq (.block (.frz [3])) .leaf)))))) .leaf))) ⟨lf, lf, ⟨lf, fun _ => rfl, fun N => ⟨(fun v => by kernel_rfl), lf, trivial, lf⟩⟩, lf⟩ (hk fun _ => by kernel_rfl)
abbrev Qmj : FnB := { f := 49, args := [.bx 110 (Xg) false], res := .shr [Zq], F := fun xs => Zs7 xs.1 }
theorem Qkt : okB Qmj :=
 ofB [0] Zf (Zn Qg7 (Zn Qh (Zn Za1 Zd))) Tryz.func49 Tryz.call49 .leaf lf (hk fun _ => by kernel_rfl)
abbrev Zxg : FnB := { f := 12, args := [.sh (.slice 5 (.int .u8))], res := .shr [Zq], F := fun xs => Zfb xs.1 }
theorem Zv3 : okB Zxg :=
 ofB [] Zf (Zn Zig (Zn Qkt Zd)) Tryz.func12 Tryz.call12 .leaf lf (hk fun _ => by kernel_rfl)
abbrev Z8d : FnB := { f := 50, args := [.bx 110 (Xg) false], res := .vals [.slice 107 (Zbb)], F := fun xs => Zqe xs.1 }
theorem Z5t : okB Z8d :=
 ofB [0] Zf (Zn Qh (Zn Zjj (Zn Zal (Zn Za1 Zd)))) Tryz.func50 Tryz.call50 (.seq .leaf (.seq .leaf (.seq (.seq .leaf (.block (.loop Z0z (fun N v => Zdd N v.1 v.2.1 v.2.2.1) (fun v => Zgy v.1 v.2.1 v.2.2.1) (fun K1 => .leaf)))) .leaf))) ⟨lf, lf, ⟨lf, fun _ => rfl, fun N => ⟨(fun v => by kernel_rfl), lf⟩⟩, lf⟩ (hk fun _ => by kernel_rfl)
abbrev Ztg : FnE := { f := 13, args := [.slice 5 (.int .u8)], res := [.slice 107 (Zbb)], F := fun xs => Zby xs.1 }
theorem Zsc : okE Ztg :=
 ofE Zf (Zn Zig (Zn Z5t Zd)) Tryz.func13 Tryz.call13 .leaf lf (hk fun _ => by kernel_rfl)
abbrev Ql4 : FnE := { f := 57, args := [.str], res := [.str], F := fun xs => Zjf xs.1 }
theorem Zzg : okE Ql4 :=
 ofE (Za Z81 Zf) Zd Tryz.func57 Tryz.call57 .leaf lf (hk fun _ => by kernel_rfl)
abbrev Z1o : FnE := { f := 15, args := [.slice 25 (Zr)], res := [.str], F := fun xs => Zi1 xs.1 }
theorem Zzb : okE Z1o :=
 ofE (Za Zks (Za Zp8 (Za Zzg Zf))) Zd Tryz.func15 Tryz.call15 (.seq .leaf (.seq .leaf (.seq (.seq .leaf (.block (.loop Zvt (fun N v => J9 N v.1 v.2.1 v.2.2.1 v.2.2.2.1) (fun v => Zdv v.1 v.2.1 v.2.2.1 v.2.2.2.1) (fun K1 => .leaf)))) .leaf))) ⟨lf, lf, ⟨lf, fun _ => rfl, fun N => ⟨(fun v => by kernel_rfl), lf⟩⟩, lf⟩ (hk fun _ => by kernel_rfl)
abbrev Z1z : FnE := { f := 16, args := [.slice 25 (Zr)], res := [.str], F := fun xs => Zi5 xs.1 }
theorem Zzi : okE Z1z :=
 ofE (Za Zfa Zf) Zd Tryz.func16 Tryz.call16 (.seq .leaf (.seq .leaf (.seq (.seq .leaf (.block (.loop Zwr (fun N v => Yc N v.1 v.2.1 v.2.2.1) (fun v => Zdw v.1 v.2.1 v.2.2.1) (fun K1 => (.seq .leaf (.seq (.block (.join Zwq (fun v => Zeg K1 v.1 v.2.1 v.2.2.1) .leaf .leaf)) .leaf)))))) .leaf))) ⟨lf, lf, ⟨lf, fun _ => rfl, fun N => ⟨(fun v => by kernel_rfl), lf, ⟨lf, (fun v => by kernel_rfl), lf⟩, lf⟩⟩, lf⟩ (hk fun _ => by kernel_rfl)
abbrev Z7j : FnE := { f := 162, args := [.int .i64], res := [.bool], F := fun xs => Zhx xs.1 }
theorem Zrp : okE Z7j :=
 ofE (Za Xd Zf) Zd Tryz.func162 Tryz.call162 .leaf lf (hk fun _ => by kernel_rfl)
abbrev Qfd : FnE := { f := 206, args := [.int .i64], res := [.bool], F := fun xs => Ztk xs.1 }
theorem Qcd : okE Qfd :=
 ofE (Za Xd Zf) Zd Tryz.func206 Tryz.call206 .leaf lf (hk fun _ => by kernel_rfl)
abbrev Zim : FnE := { f := 263, args := [.slice 3 (.int .i64), .fnc 206], res := [.int .i64], F := fun xs => Km xs.1 }
theorem Zhz : okE Zim :=
 ofE (Za Qcd Zf) Zd Tryz.func263 Tryz.call263 (.seq .leaf (.seq (.seq .leaf (.block (.loop Zg7 (fun N v => Q3 N v.1 v.2.1 v.2.2.1 v.2.2.2.1) (fun v => Xb v.1 v.2.1 v.2.2.1 v.2.2.2.1) (fun K1 => .leaf)))) .leaf)) ⟨lf, ⟨lf, fun _ => rfl, fun N => ⟨(fun v => by kernel_rfl), lf⟩⟩, lf⟩ (hk fun _ => by kernel_rfl)
abbrev Zg6 : FnE := { f := 205, args := [.slice 3 (.int .i64), .fnc 206], res := [.bool], F := fun xs => Yz xs.1 }
theorem Zfw : okE Zg6 :=
 ofE (Za Zhz Zf) Zd Tryz.func205 Tryz.call205 .leaf lf (hk fun _ => by kernel_rfl)
abbrev Ql1 : FnE := { f := 147, args := [Zbh], res := [.bool], F := fun xs => Zsj xs.1 }
theorem Qkl : okE Ql1 :=
 ofE (Za Zrp (Za Zfw (Za Zck (Za Xd Zf)))) Zd Tryz.func147 Tryz.call147 .leaf lf (hk fun _ => by kernel_rfl)
abbrev Qit : FnE := { f := 207, args := [Zt], res := [.bool], F := fun xs => Zqu xs.1 }
theorem Zw4 : okE Qit :=
 ofE Zf Zd Tryz.func207 Tryz.call207 .leaf lf (hk fun _ => by kernel_rfl)
abbrev Qfc : FnE := { f := 148, args := [.slice 135 (Zt)], res := [.bool], F := fun xs => Zab xs.1 }
theorem Zkc : okE Qfc :=
 ofE (Za Zw4 Zf) Zd Tryz.func148 Tryz.call148 (.seq .leaf (.seq (.seq .leaf (.block (.loop Z4r (fun N v => Zfr N v.1 v.2.1 v.2.2.1 v.2.2.2.1) (fun v => Zio v.1 v.2.1 v.2.2.1 v.2.2.2.1) (fun K1 => .leaf)))) .leaf)) ⟨lf, ⟨lf, fun _ => rfl, fun N => ⟨(fun v => by kernel_rfl), lf⟩⟩, lf⟩ (hk fun _ => by kernel_rfl)
abbrev Z1n : FnE := { f := 122, args := [.slice 135 (Zt)], res := [.int .i64], F := fun xs => Jd xs.1 }
theorem Zpl : okE Z1n :=
 ofE (Za Zkc Zf) Zd Tryz.func122 Tryz.call122 (.seq .leaf (.seq .leaf (.seq .leaf (.seq (.seq .leaf (.block (.loop Zvr (fun N v => Zai N v.1 v.2.1 v.2.2.1 v.2.2.2.1) (fun v => Zdu v.1 v.2.1 v.2.2.1 v.2.2.2.1) (fun K1 => .leaf)))) .leaf)))) ⟨lf, lf, lf, ⟨lf, fun _ => rfl, fun N => ⟨(fun v => by kernel_rfl), lf⟩⟩, lf⟩ (hk fun _ => by kernel_rfl)
abbrev Z7h : FnE := { f := 208, args := [.slice 135 (Zt)], res := [.slice 135 (Zt)], F := fun xs => Zdz xs.1 }
theorem Zrn : okE Z7h :=
 ofE Zf Zd Tryz.func208 Tryz.call208 .leaf lf (hk fun _ => by kernel_rfl)
abbrev Qe7 : FnE := { f := 209, args := [.slice 135 (Zt), Zt], res := [.slice 135 (Zt)], F := fun xs => Zor xs.1 xs.2.1 }
theorem Qca : okE Qe7 :=
 ofE (Za Zkc (Za Zw4 (Za Zrn Zf))) Zd Tryz.func209 Tryz.call209 (.seq .leaf (.seq .leaf (.seq .leaf (.seq (.seq .leaf (.block (.loop Z4o (fun N v => X7 N v.1 v.2.1 v.2.2.1 v.2.2.2.1 v.2.2.2.2.1 v.2.2.2.2.2.1) (fun v => Zdf v.1 v.2.1 v.2.2.1 v.2.2.2.1 v.2.2.2.2.1 v.2.2.2.2.2.1) (fun K1 => (.seq .leaf (.seq .leaf (.seq (.block (.seq .leaf (.block (.seq .leaf (.cond .leaf (.seq .leaf (.cond (.join Z4n (fun v => Zfo K1 v.1 v.2.1 v.2.2.1 v.2.2.2.1 v.2.2.2.2.1 v.2.2.2.2.2.1 v.2.2.2.2.2.2.1) .leaf .leaf) .leaf))))))) .leaf))))))) .leaf)))) ⟨lf, lf, lf, ⟨lf, fun _ => rfl, fun N => ⟨(fun v => by kernel_rfl), lf, lf, ⟨lf, lf, lf, lf, ⟨lf, (fun v => by kernel_rfl), lf⟩, lf⟩, lf⟩⟩, lf⟩ (hk fun _ => by kernel_rfl)
abbrev Z7i : FnE := { f := 151, args := [.slice 135 (Zt), .int .i64], res := [.bool], F := fun xs => Zbd xs.1 xs.2.1 }
theorem Zro : okE Z7i :=
 ofE Zf Zd Tryz.func151 Tryz.call151 .leaf lf (hk fun _ => by kernel_rfl)
abbrev Qfl : FnE := { f := 149, args := [.slice 135 (Zt), .slice 135 (Zt), .slice 135 (Zt), .int .i64], res := [.bool], F := fun xs => Zow xs.1 xs.2.1 xs.2.2.1 xs.2.2.2.1 }
theorem Qci : okE Qfl :=
 ofE (Za Zpl (Za Zrn (Za Qca (Za Zro Zf)))) Zd Tryz.func149 Tryz.call149 (.seq .leaf (.seq .leaf (.seq .leaf (.seq (.seq .leaf (.block (.loop Z4t (fun N v => Zfu N v.1 v.2.1 v.2.2.1 v.2.2.2.1 v.2.2.2.2.1) (fun v => Zdh v.1 v.2.1 v.2.2.1 v.2.2.2.1 v.2.2.2.2.1) (fun K1 => .leaf)))) .leaf)))) ⟨lf, lf, lf, ⟨lf, fun _ => rfl, fun N => ⟨(fun v => by kernel_rfl), lf⟩⟩, lf⟩ (hk fun _ => by kernel_rfl)
abbrev Qe8 : FnE := { f := 150, args := [.slice 135 (Zt), .int .i64], res := [.int .i64], F := fun xs => Zos xs.1 xs.2.1 }
theorem Qcb : okE Qe8 :=
 ofE (Za Zkc Zf) Zd Tryz.func150 Tryz.call150 (.seq .leaf (.seq .leaf (.seq (.seq .leaf (.block (.loop Z4p (fun N v => Zb6 N v.1 v.2.1 v.2.2.1 v.2.2.2.1) (fun v => Zin v.1 v.2.1 v.2.2.1 v.2.2.2.1) (fun K1 => .leaf)))) .leaf))) ⟨lf, lf, ⟨lf, fun _ => rfl, fun N => ⟨(fun v => by kernel_rfl), lf⟩⟩, lf⟩ (hk fun _ => by kernel_rfl)
abbrev Qa1 : FnE := { f := 152, args := [Zy], res := [.int .i64], F := fun xs => Zm8 xs.1 }
theorem Z80 : okE Qa1 :=
 ofE Zf Zd Tryz.func152 Tryz.call152 .leaf lf (hk fun _ => by kernel_rfl)
abbrev Qfe : FnE := { f := 102, args := [Zy], res := [.bool], F := fun xs => Zot xs.1 }
theorem Qce : okE Qfe :=
 ofE (Za Qkl (Za Zkc (Za Xd (Za Zck (Za Qci (Za Qcb (Za Zro (Za Z80 Zf)))))))) Zd Tryz.func102 Tryz.call102 (.seq .leaf (.seq .leaf (.seq .leaf (.seq .leaf (.join Z4s (fun v => Zfs v.1 v.2.1) .leaf .leaf))))) ⟨lf, lf, lf, lf, lf, (fun v => by kernel_rfl), lf⟩ (hk fun _ => by kernel_rfl)
abbrev Qfb : FnE := { f := 103, args := [Q4], res := [.bool], F := fun xs => Zk1 xs.1 }
theorem Zoa : okE Qfb :=
 ofE (Za Zck (Za Xd Zf)) Zd Tryz.func103 Tryz.call103 .leaf lf (hk fun _ => by kernel_rfl)
abbrev Qav : FnE := { f := 108, args := [Zbb], res := [.int .i64], F := fun xs => Zfp xs.1 }
theorem Znc : okE Qav :=
 ofE Zf Zd Tryz.func108 Tryz.call108 .leaf lf (hk fun _ => by kernel_rfl)
abbrev Qe9 : FnE := { f := 107, args := [Xv], res := [.bool], F := fun xs => Zey xs.1 }
theorem Zkb : okE Qe9 :=
 ofE (Za Zck (Za Znc Zf)) Zd Tryz.func107 Tryz.call107 (.seq .leaf (.seq .leaf (.seq .leaf (.seq (.seq .leaf (.block (.loop Z4q (fun N v => Zfq N v.1 v.2.1 v.2.2.1 v.2.2.2.1) (fun v => Zdg v.1 v.2.1 v.2.2.1 v.2.2.2.1) (fun K1 => .leaf)))) .leaf)))) ⟨lf, lf, lf, ⟨lf, fun _ => rfl, fun N => ⟨(fun v => by kernel_rfl), lf⟩⟩, lf⟩ (hk fun _ => by kernel_rfl)
abbrev Qo3 : FnE := { f := 153, args := [Xv], res := [.int .i64], F := fun xs => Zvs xs.1 }
theorem Qm5 : okE Qo3 :=
 ofE (Za Zkb (Za Znc Zf)) Zd Tryz.func153 Tryz.call153 .leaf lf (hk fun _ => by kernel_rfl)
abbrev Z7f : FnE := { f := 210, args := [Xv], res := [.int .i64], F := fun xs => Zlk xs.1 }
theorem Z46 : okE Z7f :=
 ofE (Za Zkb Zf) Zd Tryz.func210 Tryz.call210 .leaf lf (hk fun _ => by kernel_rfl)
abbrev Qfn : FnE := { f := 154, args := [Xv], res := [.int .i64], F := fun xs => Ztl xs.1 }
theorem Qck : okE Qfn :=
 ofE (Za Z46 Zf) Zd Tryz.func154 Tryz.call154 .leaf lf (hk fun _ => by kernel_rfl)
abbrev Z7d : FnE := { f := 104, args := [Qt], res := [.bool], F := fun xs => Zlj xs.1 }
theorem Z44 : okE Z7d :=
 ofE (Za Zkb (Za Qm5 (Za Zck (Za Xd (Za Qck Zf))))) Zd Tryz.func104 Tryz.call104 (.seq .leaf (.seq .leaf (.seq .leaf (.seq (.seq .leaf (.block (.seq .leaf (.cond .leaf (.seq .leaf (.cond .leaf (.seq .leaf (.cond .leaf (.seq .leaf (.cond .leaf (.join Zy0 (fun v => J1 v.1 v.2.1) .leaf .leaf))))))))))) .leaf)))) ⟨lf, lf, lf, ⟨lf, lf, lf, lf, lf, lf, lf, lf, lf, lf, (fun v => by kernel_rfl), lf⟩, lf⟩ (hk fun _ => by kernel_rfl)
abbrev Qfg : FnE := { f := 105, args := [Jw], res := [.bool], F := fun xs => Zk3 xs.1 }
theorem Zob : okE Qfg :=
 ofE (Za Xd Zf) Zd Tryz.func105 Tryz.call105 .leaf lf (hk fun _ => by kernel_rfl)
abbrev Z7c : FnE := { f := 106, args := [Kw], res := [.bool], F := fun xs => Zp0 xs.1 }
theorem Z43 : okE Z7c :=
 ofE (Za Xd Zf) Zd Tryz.func106 Tryz.call106 .leaf lf (hk fun _ => by kernel_rfl)
abbrev Qff : FnE := { f := 58, args := [Z1], res := [.bool], F := fun xs => Zk2 xs.1 }
theorem Zud : okE Qff :=
 ofE (Za Zck (Za Qce (Za Zoa (Za Z44 (Za Zob (Za Z43 Zf)))))) Zd Tryz.func58 Tryz.call58 .leaf lf (hk fun _ => by kernel_rfl)
abbrev Qfk : FnE := { f := 59, args := [.int .i64], res := [.str], F := fun xs => Zov xs.1 }
theorem Qch : okE Qfk :=
 ofE (Za Xd Zf) Zd Tryz.func59 Tryz.call59 .leaf lf (hk fun _ => by kernel_rfl)
abbrev Z1p : FnE := { f := 60, args := [.slice 135 (Zt)], res := [.str], F := fun xs => Vm xs.1 }
theorem Zzc : okE Z1p :=
 ofE (Za Zd6 Zf) Zd Tryz.func60 Tryz.call60 (.seq .leaf (.seq .leaf (.seq .leaf (.seq (.seq .leaf (.block (.loop Zvv (fun N v => Kk N v.1 v.2.1 v.2.2.1 v.2.2.2.1) (fun v => Wb v.1 v.2.1 v.2.2.1 v.2.2.2.1) (fun K1 => (.seq .leaf (.seq .leaf (.seq (.block (.seq .leaf (.join Zvu (fun v => Zaj K1 v.1 v.2.1 v.2.2.1 v.2.2.2.1 v.2.2.2.2.1) .leaf .leaf))) .leaf))))))) .leaf)))) ⟨lf, lf, lf, ⟨lf, fun _ => rfl, fun N => ⟨(fun v => by kernel_rfl), lf, lf, ⟨lf, lf, (fun v => by kernel_rfl), lf⟩, lf⟩⟩, lf⟩ (hk fun _ => by kernel_rfl)
abbrev Qfj : FnE := { f := 61, args := [.int .i64], res := [.str], F := fun xs => Zou xs.1 }
theorem Qcg : okE Qfj :=
 ofE (Za Xd Zf) Zd Tryz.func61 Tryz.call61 .leaf lf (hk fun _ => by kernel_rfl)
abbrev Z1m : FnE := { f := 62, args := [Xv], res := [.slice 135 (Zt)], F := fun xs => Zi0 xs.1 }
theorem Zza : okE Z1m :=
 ofE (Za Zkb (Za Znc Zf)) Zd Tryz.func62 Tryz.call62 (.seq .leaf (.seq .leaf (.seq .leaf (.seq (.seq .leaf (.block (.loop Zvq (fun N v => Zah N v.1 v.2.1 v.2.2.1 v.2.2.2.1) (fun v => Zdt v.1 v.2.1 v.2.2.1 v.2.2.2.1) (fun K1 => .leaf)))) .leaf)))) ⟨lf, lf, lf, ⟨lf, fun _ => rfl, fun N => ⟨(fun v => by kernel_rfl), lf⟩⟩, lf⟩ (hk fun _ => by kernel_rfl)
abbrev Z1q : FnE := { f := 17, args := [Z1], res := [.str], F := fun xs => Zi2 xs.1 }
theorem Zzd : okE Z1q :=
 ofE (Za Zud (Za Zd6 (Za Qch (Za Zzc (Za Qcg (Za Zza Zf)))))) Zd Tryz.func17 Tryz.call17 (.seq .leaf (.seq .leaf (.seq .leaf (.join Zvw (fun v => Zak v.1 v.2.1) .leaf .leaf)))) ⟨lf, lf, lf, lf, (fun v => by kernel_rfl), lf⟩ (hk fun _ => by kernel_rfl)
abbrev Qge : FnE := { f := 64, args := [.int .i64], res := [.str], F := fun xs => Zik xs.1 }
theorem Qcy : okE Qge :=
 ofE (Za Xh Zf) Zd Tryz.func64 Tryz.call64 .leaf lf (hk fun _ => by kernel_rfl)
abbrev Z10 : FnE := { f := 65, args := [.slice 135 (Zt)], res := [.str], F := fun xs => Vq xs.1 }
theorem Zzj : okE Z10 :=
 ofE (Za Za0 Zf) Zd Tryz.func65 Tryz.call65 (.seq .leaf (.seq .leaf (.seq (.seq .leaf (.block (.loop Zwt (fun N v => Kq N v.1 v.2.1 v.2.2.1) (fun v => Wg v.1 v.2.1 v.2.2.1) (fun K1 => (.seq .leaf (.seq (.block (.join Zws (fun v => Zaq K1 v.1 v.2.1 v.2.2.1) .leaf .leaf)) .leaf)))))) .leaf))) ⟨lf, lf, ⟨lf, fun _ => rfl, fun N => ⟨(fun v => by kernel_rfl), lf, ⟨lf, (fun v => by kernel_rfl), lf⟩, lf⟩⟩, lf⟩ (hk fun _ => by kernel_rfl)
abbrev Qgb : FnE := { f := 66, args := [.int .i64], res := [.str], F := fun xs => Zii xs.1 }
theorem Qcv : okE Qgb :=
 ofE (Za Xh Zf) Zd Tryz.func66 Tryz.call66 .leaf lf (hk fun _ => by kernel_rfl)
abbrev Z11 : FnE := { f := 18, args := [Z1], res := [.str], F := fun xs => Zi6 xs.1 }
theorem Zzk : okE Z11 :=
 ofE (Za Zof (Za Za0 (Za Qcy (Za Zzj (Za Qcv (Za Zpm Zf)))))) Zd Tryz.func18 Tryz.call18 (.seq .leaf (.seq .leaf (.seq .leaf (.join Zwu (fun v => Zar v.1 v.2.1) .leaf .leaf)))) ⟨lf, lf, lf, lf, (fun v => by kernel_rfl), lf⟩ (hk fun _ => by kernel_rfl)
abbrev Qlz : FnE := { f := 115, args := [Zqf], res := [.bool], F := fun xs => Zpj xs.1 }
theorem Qkk : okE Qlz :=
 ofE (Za Zrp (Za Xd Zf)) Zd Tryz.func115 Tryz.call115 .leaf lf (hk fun _ => by kernel_rfl)
abbrev Z69 : FnE := { f := 116, args := [.slice 51 (Z1)], res := [.bool], F := fun xs => Zbc xs.1 }
theorem Zmc : okE Z69 :=
 ofE (Za Zud Zf) Zd Tryz.func116 Tryz.call116 (.seq .leaf (.seq (.seq .leaf (.block (.loop Zyz (fun N v => J0 N v.1 v.2.1 v.2.2.1 v.2.2.2.1) (fun v => Zay v.1 v.2.1 v.2.2.1 v.2.2.2.1) (fun K1 => .leaf)))) .leaf)) ⟨lf, ⟨lf, fun _ => rfl, fun N => ⟨(fun v => by kernel_rfl), lf⟩⟩, lf⟩ (hk fun _ => by kernel_rfl)
abbrev Qiq : FnE := { f := 117, args := [Zi7], res := [.bool], F := fun xs => Zqt xs.1 }
theorem Qgw : okE Qiq :=
 ofE (Za Xd Zf) Zd Tryz.func117 Tryz.call117 .leaf lf (hk fun _ => by kernel_rfl)
abbrev Qip : FnE := { f := 118, args := [Q4], res := [.bool], F := fun xs => Zqs xs.1 }
theorem Qgv : okE Qip :=
 ofE (Za Xd Zf) Zd Tryz.func118 Tryz.call118 .leaf lf (hk fun _ => by kernel_rfl)
abbrev Z1r : FnE := { f := 164, args := [Zr], res := [.bool], F := fun xs => Zm7 xs.1 }
theorem Zzf : okE Z1r :=
 ofE (Za Zw3 Zf) Zd Tryz.func164 Tryz.call164 .leaf lf (hk fun _ => by kernel_rfl)
abbrev W2 : FnE := { f := 213, args := [.slice 25 (Zr), .fnc 164], res := [.int .i64], F := fun xs => Xe xs.1 }
theorem Wk : okE W2 :=
 ofE (Za Zzf Zf) Zd Tryz.func213 Tryz.call213 (.seq .leaf (.seq (.seq .leaf (.block (.loop V5 (fun N v => Qc N v.1 v.2.1 v.2.2.1 v.2.2.2.1) (fun v => Qy v.1 v.2.1 v.2.2.1 v.2.2.2.1) (fun K1 => .leaf)))) .leaf)) ⟨lf, ⟨lf, fun _ => rfl, fun N => ⟨(fun v => by kernel_rfl), lf⟩⟩, lf⟩ (hk fun _ => by kernel_rfl)
abbrev V4 : FnE := { f := 163, args := [.slice 25 (Zr), .fnc 164], res := [.bool], F := fun xs => Qi xs.1 }
theorem Vo : okE V4 :=
 ofE (Za Wk Zf) Zd Tryz.func163 Tryz.call163 .leaf lf (hk fun _ => by kernel_rfl)
abbrev Z7g : FnE := { f := 119, args := [.slice 148 (Wz), .int .i64], res := [.bool], F := fun xs => Zp1 xs.1 xs.2.1 }
theorem Z47 : okE Z7g :=
 ofE (Za Xd (Za Vo Zf)) Zd Tryz.func119 Tryz.call119 (.seq .leaf (.seq (.seq .leaf (.block (.loop Zy2 (fun N v => Zch N v.1 v.2.1 v.2.2.1 v.2.2.2.1 v.2.2.2.2.1) (fun v => Zft v.1 v.2.1 v.2.2.1 v.2.2.2.1 v.2.2.2.2.1) (fun K1 => .leaf)))) .leaf)) ⟨lf, ⟨lf, fun _ => rfl, fun N => ⟨(fun v => by kernel_rfl), lf⟩⟩, lf⟩ (hk fun _ => by kernel_rfl)
abbrev Z3z : FnE := { f := 166, args := [Z1], res := [.int .i64], F := fun xs => Zub xs.1 }
theorem Z19 : okE Z3z :=
 ofE Zf Zd Tryz.func166 Tryz.call166 .leaf lf (hk fun _ => by kernel_rfl)
abbrev Zpf : FnE := { f := 165, args := [.slice 51 (Z1), .fnc 166], res := [.int .i64], F := fun xs => Zbw xs.1 }
theorem Zoe : okE Zpf :=
 ofE (Za Zmc (Za Z19 Zf)) Zd Tryz.func165 Tryz.call165 (.seq .leaf (.seq .leaf (.seq .leaf (.seq (.seq .leaf (.block (.loop Zna (fun N v => Yj N v.1 v.2.1 v.2.2.1 v.2.2.2.1 v.2.2.2.2.1) (fun v => Xo v.1 v.2.1 v.2.2.1 v.2.2.2.1 v.2.2.2.2.1) (fun K1 => .leaf)))) .leaf)))) ⟨lf, lf, lf, ⟨lf, fun _ => rfl, fun N => ⟨(fun v => by kernel_rfl), lf⟩⟩, lf⟩ (hk fun _ => by kernel_rfl)
abbrev Qa0 : FnE := { f := 120, args := [.slice 51 (Z1)], res := [.int .i64], F := fun xs => Zm6 xs.1 }
theorem Z8z : okE Qa0 :=
 ofE (Za Zoe Zf) Zd Tryz.func120 Tryz.call120 .leaf lf (hk fun _ => by kernel_rfl)
abbrev Z3y : FnE := { f := 167, args := [Z1], res := [.int .i64], F := fun xs => Zua xs.1 }
theorem Z18 : okE Z3y :=
 ofE Zf Zd Tryz.func167 Tryz.call167 .leaf lf (hk fun _ => by kernel_rfl)
abbrev Zpe : FnE := { f := 165, args := [.slice 51 (Z1), .fnc 167], res := [.int .i64], F := fun xs => Zbv xs.1 }
theorem Zod : okE Zpe :=
 ofE (Za Zmc (Za Z18 Zf)) Zd Tryz.func165 Tryz.call165 (.seq .leaf (.seq .leaf (.seq .leaf (.seq (.seq .leaf (.block (.loop Zm9 (fun N v => Yi N v.1 v.2.1 v.2.2.1 v.2.2.2.1 v.2.2.2.2.1) (fun v => Jt v.1 v.2.1 v.2.2.1 v.2.2.2.1 v.2.2.2.2.1) (fun K1 => .leaf)))) .leaf)))) ⟨lf, lf, lf, ⟨lf, fun _ => rfl, fun N => ⟨(fun v => by kernel_rfl), lf⟩⟩, lf⟩ (hk fun _ => by kernel_rfl)
abbrev Qaz : FnE := { f := 121, args := [.slice 51 (Z1)], res := [.int .i64], F := fun xs => Zm5 xs.1 }
theorem Z8y : okE Qaz :=
 ofE (Za Zod Zf) Zd Tryz.func121 Tryz.call121 .leaf lf (hk fun _ => by kernel_rfl)
abbrev Ql0 : FnE := { f := 68, args := [Zq], res := [.bool], F := fun xs => Zpk xs.1 }
theorem Zze : okE Ql0 :=
 ofE (Za Qkk (Za Zmc (Za Zoa (Za Zob (Za Qgw (Za Qgv (Za Xd (Za Z47 (Za Z8z (Za Z8y Zf)))))))))) Zd Tryz.func68 Tryz.call68 .leaf lf (hk fun _ => by kernel_rfl)
abbrev Qfa : FnE := { f := 69, args := [Zq], res := [.bool], F := fun xs => Ztj xs.1 }
theorem Qcc : okE Qfa :=
 ofE Zf Zd Tryz.func69 Tryz.call69 .leaf lf (hk fun _ => by kernel_rfl)
abbrev Z7a : FnE := { f := 70, args := [Q4], res := [.int .i64], F := fun xs => Zpz xs.1 }
theorem Z41 : okE Z7a :=
 ofE (Za Zoa Zf) Zd Tryz.func70 Tryz.call70 .leaf lf (hk fun _ => by kernel_rfl)
abbrev Qis : FnE := { f := 71, args := [Jw], res := [.int .i64], F := fun xs => Zvx xs.1 }
theorem Qgx : okE Qis :=
 ofE (Za Zob Zf) Zd Tryz.func71 Tryz.call71 .leaf lf (hk fun _ => by kernel_rfl)
abbrev Zyl : FnE := { f := 72, args := [Zq], res := [.int .i64], F := fun xs => Zhb xs.1 }
theorem Zxl : okE Zyl :=
 ofE (Za Zze (Za Zpl Zf)) Zd Tryz.func72 Tryz.call72 (.seq .leaf (.seq .leaf (.seq .leaf (.seq (.seq .leaf (.block (.loop Zt7 (fun N v => Wi N v.1 v.2.1 v.2.2.1 v.2.2.2.1) (fun v => Zje v.1 v.2.1 v.2.2.1 v.2.2.2.1) (fun K1 => .leaf)))) .leaf)))) ⟨lf, lf, lf, ⟨lf, fun _ => rfl, fun N => ⟨(fun v => by kernel_rfl), lf⟩⟩, lf⟩ (hk fun _ => by kernel_rfl)
abbrev Z7b : FnE := { f := 19, args := [Zq], res := [.str], F := fun xs => Zli xs.1 }
theorem Z42 : okE Z7b :=
 ofE (Za Zze (Za Qcc (Za Zd6 (Za Z41 (Za Qgx (Za Zxl Zf)))))) Zd Tryz.func19 Tryz.call19 .leaf lf (hk fun _ => by kernel_rfl)
abbrev Qi0 : FnE := { f := 76, args := [Jw], res := [.int .i64], F := fun xs => Znu xs.1 }
theorem Qg0 : okE Qi0 :=
 ofE (Za Zb9 Zf) Zd Tryz.func76 Tryz.call76 .leaf lf (hk fun _ => by kernel_rfl)
abbrev Zyp : FnE := { f := 77, args := [Zq], res := [.int .i64], F := fun xs => Zhi xs.1 }
theorem Zxo : okE Zyp :=
 ofE (Za Kl (Za Zpo Zf)) Zd Tryz.func77 Tryz.call77 (.seq .leaf (.seq .leaf (.seq (.seq .leaf (.block (.loop Zuv (fun N v => Jq N v.1 v.2.1 v.2.2.1) (fun v => Kn v.1 v.2.1 v.2.2.1) (fun K1 => .leaf)))) .leaf))) ⟨lf, lf, ⟨lf, fun _ => rfl, fun N => ⟨(fun v => by kernel_rfl), lf⟩⟩, lf⟩ (hk fun _ => by kernel_rfl)
abbrev Z7p : FnE := { f := 20, args := [Zq], res := [.str], F := fun xs => Zls xs.1 }
theorem Z5a : okE Z7p :=
 ofE (Za Kl (Za Zuh (Za Za0 (Za Zrq (Za Qg0 (Za Zxo Zf)))))) Zd Tryz.func20 Tryz.call20 .leaf lf (hk fun _ => by kernel_rfl)
abbrev Zym : FnE := { f := 21, args := [.slice 107 (Zbb)], res := [.str], F := fun xs => Zhe xs.1 }
theorem Zxm : okE Zym :=
 ofE (Za Zd6 (Za Zp8 (Za Zzg Zf))) Zd Tryz.func21 Tryz.call21 (.seq .leaf (.seq .leaf (.seq (.seq .leaf (.block (.loop Zt8 (fun N v => Jm N v.1 v.2.1 v.2.2.1 v.2.2.2.1) (fun v => Zcg v.1 v.2.1 v.2.2.1 v.2.2.2.1) (fun K1 => .leaf)))) .leaf))) ⟨lf, lf, ⟨lf, fun _ => rfl, fun N => ⟨(fun v => by kernel_rfl), lf⟩⟩, lf⟩ (hk fun _ => by kernel_rfl)
abbrev Zys : FnE := { f := 22, args := [.slice 107 (Zbb)], res := [.str], F := fun xs => Zho xs.1 }
theorem Zxr : okE Zys :=
 ofE (Za Za0 Zf) Zd Tryz.func22 Tryz.call22 (.seq .leaf (.seq .leaf (.seq (.seq .leaf (.block (.loop Zu4 (fun N v => Xw N v.1 v.2.1 v.2.2.1) (fun v => Zct v.1 v.2.1 v.2.2.1) (fun K1 => (.seq .leaf (.seq (.block (.join Zu3 (fun v => Zdp K1 v.1 v.2.1 v.2.2.1) .leaf .leaf)) .leaf)))))) .leaf))) ⟨lf, lf, ⟨lf, fun _ => rfl, fun N => ⟨(fun v => by kernel_rfl), lf, ⟨lf, (fun v => by kernel_rfl), lf⟩, lf⟩⟩, lf⟩ (hk fun _ => by kernel_rfl)
abbrev Zpw : FnE := { f := 3, args := [.slice 5 (.int .u8)], res := [.bool], F := fun xs => Zox xs.1 }
theorem Qcl : okE Zpw :=
 ofE (Za Qr4 (Za Zuf (Za Zks (Za Z45 (Za Zv4 (Za Z5m (Za Ztq (Za Zsc (Za Zfa (Za Zzb (Za Zzi (Za Zzd (Za Zzk (Za Z42 (Za Z5a (Za Zxm (Za Zxr Zf))))))))))))))))) (Zn Ztr (Zn Zv3 Zd)) Tryz.func3 Tryz.call3 .leaf lf (hk fun _ => by kernel_rfl)
end
end Go.Proofs.YtahooemkbchdeaaGreatDoor

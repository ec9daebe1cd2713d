/- FnForged: that the program code computes these plain functions, part 2. No condition. -/
import Derived.Test.YtfhellopliifdaaGreatK1
set_option linter.all false
namespace Go.Proofs.YtfhellopliifdaaGreat
noncomputable section
open Go.Am Go.Proofs.Tryz
set_option maxRecDepth 100000
abbrev Zue:Zvd:={f:=177,n:=18,np:=3,rv:=Tryz.f177.results.toList,run:=λln _ k s=>Vo (Ziq [] ln [Zm1] [] [Zby] []) 18 (Zam Tryz.f177) .leaf k s}
theorem Qah:Zay Tryz.prog glob Zue:=Zay.of (C:=Ziq [] [] [Zm1] [] [Zby] []) (λln=>Ws (ln:=ln) Jh rfl (Za Zv4 Zh) Kq (Zy Zsx Zd) Kr) Tryz.func177 rfl Tryz.call177 (by decide) rfl rfl (λ_ _ _=>rfl)
abbrev Zmq:Zvd:={f:=186,n:=41,np:=2,rv:=Tryz.f186.results.toList,run:=λln _ k s=>Vo (Ziq [Zue,Vs,Vb] ln [Zt3] [] [] []) 41 (Zam Tryz.f186) .leaf k s}
theorem Zyk:Zay Tryz.prog glob Zmq:=Zay.of (C:=Ziq [Zue,Vs,Vb] [] [Zt3] [] [] []) (λln=>Ws (ln:=ln) (Xs Qah (Xs Zkp (Xs Zng Jh))) rfl (Za Qav Zh) Kq Zd Kr) Tryz.func186 rfl Tryz.call186 (by decide) rfl rfl (λ_ _ _=>rfl)
abbrev Z44:Zvd:={f:=175,n:=36,np:=4,rv:=Tryz.f175.results.toList,run:=λln _ k s=>Vo (Ziq [Zmq] ln [Zc3,Zc7,Vn] [] [] []) 36 (Zam Tryz.f175) .leaf k s}
theorem Qfg:Zay Tryz.prog glob Z44:=Zay.of (C:=Ziq [Zmq] [] [Zc3,Zc7,Vn] [] [] []) (λln=>Ws (ln:=ln) (Xs Zyk Jh) rfl (Za Zbk (Za Zd3 (Za Vy Zh))) Kq Zd Kr) Tryz.func175 rfl Tryz.call175 (by decide) rfl rfl (λ_ _ _=>rfl)
abbrev Z17:FnE:=⟨102,[Zq,Zt],[Zq,.int .i64],u2 Ztl⟩
theorem Qc5:Zn8 Tryz.prog glob Z17:=by
 refine Zn8.of (e:=Z17) (C:=Ziq [Zmq,Z44] [] [] [] [] []) (Ws (Xs Zyk (Xs Qfg Jh)) rfl Zh Kq Zd Kr) rfl Tryz.func102 (c:=Zam Tryz.f102) rfl Tryz.call102 (by decide)
  (.leaf) ?_ ?_
 ·exact lf
 ·intro xs r h;refine Eq.trans (Eq.symm ?_) h;kernel_rfl
abbrev Zvj:FnE:=⟨190,[Qq,.int .i64],[Qq],u2 Zo3⟩
theorem Qdd:okE Zvj:=
 ofE (Za Zcg Zh) Zd func190 call190 .leaf
abbrev Zk5:FnB:=⟨128,[.bx 37 (Zq) (.u true),.sh (.bool)],.fp (Zq) 0 [7] [6],u2 Ze4⟩
theorem Zww:okB Zk5:=
 ofB [0] Zh Zd func128 call128 .leaf
abbrev Zvi:FnE:=⟨191,[Zdr,.int .i64],[Zdr],u2 Zo2⟩
theorem Qdc:okE Zvi:=
 ofE (Za Z6w Zh) Zd func191 call191 .leaf
abbrev Zuf:Zvd:={f:=177,n:=18,np:=3,rv:=Tryz.f177.results.toList,run:=λln _ k s=>Vo (Ziq [] ln [Zm1,Zho] [] [Zby] []) 18 (Zam Tryz.f177) .leaf k s}
theorem Qai:Zay Tryz.prog glob Zuf:=Zay.of (C:=Ziq [] [] [Zm1,Zho] [] [Zby] []) (λln=>Ws (ln:=ln) Jh rfl (Za Zv4 (Za Zq5 Zh)) Kq (Zy Zsx Zd) Kr) Tryz.func177 rfl Tryz.call177 (by decide) rfl rfl (λ_ _ _=>rfl)
abbrev Zlh:Zvd:={f:=189,n:=64,np:=2,rv:=Tryz.f189.results.toList,run:=λln _ k s=>Vo (Ziq [Zuf,Vs] ln [Zvj,Zvi] [] [Zk5] []) 64 (Zam Tryz.f189) .leaf k s}
theorem Zws:Zay Tryz.prog glob Zlh:=Zay.of (C:=Ziq [Zuf,Vs] [] [Zvj,Zvi] [] [Zk5] []) (λln=>Ws (ln:=ln) (Xs Qai (Xs Zkp Jh)) rfl (Za Qdd (Za Qdc Zh)) Kq (Zy Zww Zd) Kr) Tryz.func189 rfl Tryz.call189 (by decide) rfl rfl (λ_ _ _=>rfl)
abbrev Z45:Zvd:={f:=175,n:=36,np:=4,rv:=Tryz.f175.results.toList,run:=λln _ k s=>Vo (Ziq [Zlh] ln [Zc3,Zc7,Vn] [] [] []) 36 (Zam Tryz.f175) .leaf k s}
theorem Qfh:Zay Tryz.prog glob Z45:=Zay.of (C:=Ziq [Zlh] [] [Zc3,Zc7,Vn] [] [] []) (λln=>Ws (ln:=ln) (Xs Zws Jh) rfl (Za Zbk (Za Zd3 (Za Vy Zh))) Kq Zd Kr) Tryz.func175 rfl Tryz.call175 (by decide) rfl rfl (λ_ _ _=>rfl)
abbrev Z0m:FnE:=⟨103,[Zq,Zt],[Zq,.int .i64],u2 Zry⟩
theorem Qan:Zn8 Tryz.prog glob Z0m:=by
 refine Zn8.of (e:=Z0m) (C:=Ziq [Zlh,Z45] [] [] [] [] []) (Ws (Xs Zws (Xs Qfh Jh)) rfl Zh Kq Zd Kr) rfl Tryz.func103 (c:=Zam Tryz.f103) rfl Tryz.call103 (by decide)
  (.leaf) ?_ ?_
 ·exact lf
 ·intro xs r h;refine Eq.trans (Eq.symm ?_) h;kernel_rfl
theorem Qam:okE ⟨53,[Zq,Zt],[Zq,.int .i64],u2 Zrx⟩:=
 ofE (Za Qc4 (Za Qao (Za Qc5 (Za Qan Zh)))) Zd func53 call53 .leaf
theorem Zwx:okE ⟨21,[Zq,.str],[Zq,.int .i64],u2 Zjc⟩:=
 ofE (Za Zbk (Za Zxb (Za Vy (Za Z68 (Za Qfv (Za Qam Zh)))))) Zd func21 call21 (.seq .leaf (.seq .leaf (.seq .leaf (.seq .leaf (.seq .leaf (.seq (.seq .leaf (.block (.loop [.box 4 37 (Zq) (.u true),.val 6 (.slice 80 (Zt)) (.u true),.box 8 37 (Zq) (.u true),.bor 35 6 [],pV 36 tI,pV 37 tI] (λN=>u5 (Zer N)) (u5 Zqx) (λK1=>.leaf)))) .leaf)))))) ⟨λ_=>rfl,λN v=>by kernel_rfl⟩
theorem Z8m:okE ⟨6,[Zq,.slice 9 (.str)],[Zq],u2 Zk7⟩:=
 ofE (Za Vy (Za Zwx Zh)) Zd func6 call6 (.seq .leaf (.seq .leaf (.seq (.seq .leaf (.block (.loop [.box 4 37 (Zq) (.u true),.box 5 37 (Zq) (.u true),pV 10 (.slice 9 (.str)),pV 11 tI,pV 12 tI] (λN=>u5 (Zf6 N)) (u5 Zef) (λK1=>.leaf)))) .leaf))) ⟨λ_=>rfl,λN v=>by kernel_rfl⟩
theorem Z1a:okE ⟨298,[.str,.int .i64],[.int .i64,.int .i64,.bool],u2 Xp⟩:=
 ofE Zh Zd func298 call298 (.seq .leaf (.seq .leaf (.seq .leaf (.seq .leaf (.seq .leaf (.seq (.seq .leaf (.block (.loop [pV 0 .str,pV 1 tI,pV 7 tI,pV 8 tI,pV 9 tI] (λN=>u5 (Zb4 N)) (u5 Znt) (λK1=>.leaf)))) .leaf)))))) ⟨λ_=>rfl,λN v=>by kernel_rfl⟩
theorem Z86:okE ⟨196,[.str,.int .i64,.int .i64],[.slice 3 (.int .i64),.int .i64,.bool],u3 Zcz⟩:=
 ofE (Za Z1a Zh) Zd func196 call196 (.seq .leaf (.seq .leaf (.seq (.seq .leaf (.block (.loop [pV 0 .str,pV 1 tI,pV 2 tI,.val 9 (.slice 3 (.int .i64)) (.u true),pV 10 tI] (λN=>u5 (Zaf N)) (u5 Zd0) (λK1=>.leaf)))) .leaf))) ⟨λ_=>rfl,λN v=>by kernel_rfl⟩
theorem Qjb:okE ⟨195,[.str,.int .i64,.int .i64],[Zt,.int .i64,.bool],u3 Zmf⟩:=
 ofE (Za Z86 (Za Z1a (Za Zd4 Zh))) Zd func195 call195 (.seq .leaf (.seq .leaf (.seq .leaf (.join [pV 0 .str,pV 1 tI,pV 2 tI,.box 6 80 (Zt) (.u false),.box 9 80 (Zt) (.u false),pV 10 tI] (u6 Zi7) .leaf (.seq .leaf (.seq .leaf (.seq .leaf (.join [pV 0 .str,pV 2 tI,.box 6 80 (Zt) (.u false),.box 9 80 (Zt) (.u false),pV 12 tI] (u5 Zfq) .leaf (.seq .leaf (.join [pV 0 .str,.box 6 80 (Zt) (.u false),.box 9 80 (Zt) (.u false),pV 12 tI,pV 14 tI] (u5 Zfr) .leaf .leaf)))))))))) ⟨(λv=>by kernel_rfl),(λv=>by kernel_rfl),λv=>by kernel_rfl⟩
theorem Qa1:okE ⟨106,[.str,.int .i64],[Zt,.int .i64,.bool],u2 Ziz⟩:=
 ofE (Za Qjb (Za Z86 (Za Zd4 Zh))) Zd func106 call106 (.seq .leaf (.seq .leaf (.seq .leaf (.seq .leaf (.seq .leaf (.seq .leaf (.join [pV 0 .str,pV 1 tI,.box 4 80 (Zt) (.u false),.box 11 80 (Zt) (.u false),pV 12 tI] (u5 Jr) (.seq .leaf (.block (.seq .leaf (.cond .leaf (.join [pV 0 .str,pV 1 tI,.box 4 80 (Zt) (.u false),pV 7 tI,.box 11 80 (Zt) (.u false),pV 12 tI,pV 55 tI,pV 58 .bool] (u8 Za4) .leaf (.cond .leaf (.join [pV 0 .str,pV 1 tI,.box 4 80 (Zt) (.u false),pV 7 tI,.box 11 80 (Zt) (.u false),pV 12 tI,pV 62 .bool] (u7 Zdv) .leaf .leaf))))))) (.seq .leaf (.join [.box 4 80 (Zt) (.u false),.box 11 80 (Zt) (.u false),pV 14 tI,pV 15 .bool] (u4 Xx) (.seq .leaf (.block (.seq .leaf (.cond .leaf (.seq .leaf (.cond .leaf (.join [.box 4 80 (Zt) (.u false),.box 11 80 (Zt) (.u false),.val 13 (.slice 3 (.int .i64)) (.u true),pV 14 tI,pV 15 .bool,pV 117 .bool] (u6 Zdu) .leaf .leaf))))))) .leaf))))))))) ⟨⟨(λv=>by kernel_rfl),λv=>by kernel_rfl⟩,(λv=>by kernel_rfl),λv=>by kernel_rfl,λv=>by kernel_rfl⟩
theorem Z7d:okE ⟨56,[.str],[.slice 80 (Zt),.bool],u1 Kd⟩:=
 ofE (Za Qa1 (Za Y1 Zh)) Zd func56 call56 (.seq .leaf (.seq .leaf (.seq .leaf (.seq (.block (.loop [pV 0 .str,.val 4 (.slice 80 (Zt)) (.u true),pV 5 tI] (λN=>u3 (Jm N)) (u3 Zjm) (λK1=>.leaf))) .leaf)))) ⟨λ_=>rfl,λN v=>by kernel_rfl⟩
theorem Z2w:okE ⟨45,[Zq,.int .i64],[Zq],u2 Zgb⟩:=
 ofE (Za Q3 (Za Y1 Zh)) Zd func45 call45 .leaf
theorem Zw0:okB ⟨23,[.sh (Zq),.sh (.str)],.shr [Zq,.int .i64],u2 Zb5⟩:=
 ofB [] (Za Q3 (Za Vq (Za Zsc (Za Z7d (Za Z2w Zh))))) (Zy Zzr Zd) func23 call23 (.seq .leaf (.seq .leaf (.seq (.seq .leaf (.cond (.seq .leaf (.frz [(4,.u false)])) .leaf)) (.seq .leaf (.seq (.seq .leaf (.cond (.seq .leaf (.frz [(4,.u false)])) .leaf)) (.seq (.seq .leaf (.block (.loop [.box 4 37 (Zq) (.u true),.box 6 37 (Zq) (.u false),.val 7 (.slice 80 (Zt)) (.u true),pV 9 tI] (λN=>u4 (Wf N)) (u4 W9) (λK1=>(.seq .leaf (.seq (.block (.join [.box 4 37 (Zq) (.u true),.box 6 37 (Zq) (.u false),.val 7 (.slice 80 (Zt)) (.u true),pV 9 tI,.box 10 37 (Zq) (.u false),pV 11 tI] (u6 (Zj5 K1)) (.frz [(6,.u false)]) (.seq (.seq .leaf (.cond (.seq .leaf (.frz [(4,.u false)])) .leaf)) .leaf))) .leaf)))))) .leaf)))))) ⟨λ_=>rfl,λN=>⟨(λv=>by kernel_rfl),λv=>by kernel_rfl⟩⟩
theorem Z8z:okB ⟨7,[.sh (Zq),.sh (.slice 9 (.str))],.shr [Zq],u2 Zqk⟩:=
 ofB [] (Za Q3 Zh) (Zy Zw0 Zd) func7 call7 (.seq .leaf (.seq .leaf (.seq (.seq .leaf (.block (.loop [pV 1 (.slice 9 (.str)),.box 4 37 (Zq) (.u true),.box 5 37 (Zq) (.u false),pV 6 tI] (λN=>u4 (Zgd N)) (u4 Zek) (λK1=>(.seq .leaf (.seq (.block (.seq (.frz [(5,.u false)]) .leaf)) .leaf)))))) .leaf))) ⟨λ_=>rfl,λN v=>by kernel_rfl⟩
abbrev Qbx:FnE:=⟨24,[Zq],[.bool],u1 Zut⟩
theorem Z08:okE Qbx:=
 ofE (Za Zbk (Za Zxb Zh)) Zd func24 call24 .leaf
theorem Qc3:okE ⟨8,[Zq,.slice 9 (.str)],[.int .i64,.int .i64],u2 Ztj⟩:=
 ofE (Za Z08 (Za Zwx Zh)) Zd func8 call8 (.seq .leaf (.seq .leaf (.seq .leaf (.seq (.seq .leaf (.block (.loop [.box 6 37 (Zq) (.u false),pV 15 (.slice 9 (.str)),pV 16 tI,pV 17 tI] (λN=>u4 (Zjb N)) (u4 Zgu) (λK1=>.leaf)))) .leaf)))) ⟨λ_=>rfl,λN v=>by kernel_rfl⟩
theorem Qdl:okE ⟨9,[Zq,.slice 9 (.str)],[.int .i64,.int .i64],u2 Ztw⟩:=
 ofE (Za Q3 (Za Vr Zh)) (Zy Zw0 Zd) func9 call9 (.seq .leaf (.seq .leaf (.seq .leaf (.seq (.seq .leaf (.block (.loop [pV 1 (.slice 9 (.str)),.box 6 37 (Zq) (.u false),pV 7 tI] (λN=>u3 (Zjr N)) (u3 Zg3) (λK1=>(.seq .leaf (.seq (.block (.join [pV 1 (.slice 9 (.str)),.box 6 37 (Zq) (.u false),pV 7 tI,.box 8 37 (Zq) (.u false),pV 9 tI] (u5 (Zuj K1)) (.frz [(6,.u false)]) .leaf)) .leaf)))))) .leaf)))) ⟨λ_=>rfl,λN=>⟨(λv=>by kernel_rfl),λv=>by kernel_rfl⟩⟩
theorem Qdk:okE ⟨209,[Wh,Wh],[.bool],u2 Ztv⟩:=
 ofE Zh Zd func209 call209 (.seq .leaf (.seq .leaf (.seq (.seq .leaf (.block (.loop [.box 2 84 (Wh) (.u false),.box 3 84 (Wh) (.u false),pV 5 tI] (λN=>u3 (Zjq N)) (u3 Znw) (λK1=>.leaf)))) .leaf))) ⟨λ_=>rfl,λN v=>by kernel_rfl⟩
theorem Qa5:okE ⟨210,[.slice 214 (Zw),.slice 214 (Zw)],[.bool],u2 Zi0⟩:=
 ofE Zh Zd func210 call210 (.seq .leaf (.seq .leaf (.seq (.seq .leaf (.block (.loop [pV 0 (.slice 214 (Zw)),pV 1 (.slice 214 (Zw)),pV 5 tI] (λN=>u3 (Zhx N)) (u3 Zl8) (λK1=>.leaf)))) .leaf))) ⟨λ_=>rfl,λN v=>by kernel_rfl⟩
theorem Z8x:okE ⟨111,[Z1,Z1],[.bool],u2 Zqi⟩:=
 ofE (Za Qdk (Za Qa5 Zh)) Zd func111 call111 .leaf
theorem Z8w:okE ⟨211,[Xe,Xe],[.bool],u2 Zqh⟩:=
 ofE Zh Zd func211 call211 (.seq .leaf (.seq .leaf (.seq (.seq .leaf (.block (.loop [.box 2 90 (Xe) (.u false),.box 3 90 (Xe) (.u false),pV 5 tI] (λN=>u3 (Zgc N)) (u3 Zkd) (λK1=>.leaf)))) .leaf))) ⟨λ_=>rfl,λN v=>by kernel_rfl⟩
theorem Z52:okE ⟨112,[Qi,Qi],[.bool],u2 Zmu⟩:=
 ofE (Za Z8w Zh) Zd func112 call112 .leaf
theorem Z8y:okE ⟨58,[Zu,Zu],[.bool],u2 Zqj⟩:=
 ofE (Za Z8x (Za Z52 Zh)) Zd func58 call58 .leaf
theorem Qa6:okE ⟨26,[.slice 96 (Zu),.slice 96 (Zu)],[.bool],u2 Zsf⟩:=
 ofE (Za Z8y Zh) Zd func26 call26 (.seq .leaf (.seq .leaf (.seq (.seq .leaf (.block (.loop [pV 0 (.slice 96 (Zu)),pV 1 (.slice 96 (Zu)),pV 5 tI] (λN=>u3 (Zhy N)) (u3 Zl9) (λK1=>.leaf)))) .leaf))) ⟨λ_=>rfl,λN v=>by kernel_rfl⟩
theorem Z53:okE ⟨27,[.slice 63 (Yo),.slice 63 (Yo)],[.bool],u2 Zmz⟩:=
 ofE Zh Zd func27 call27 (.seq .leaf (.seq .leaf (.seq (.seq .leaf (.block (.loop [pV 0 (.slice 63 (Yo)),pV 1 (.slice 63 (Yo)),pV 5 tI] (λN=>u3 (Zdn N)) (u3 Zia) (λK1=>(.seq .leaf (.seq (.block (.seq .leaf (.seq .leaf (.block (.loop [pV 0 (.slice 63 (Yo)),pV 1 (.slice 63 (Yo)),pV 5 tI,pV 6 tI] (λN=>u4 (Zdo K1 N)) (u4 Zc0) (λK2=>.leaf)))))) .leaf)))))) .leaf))) ⟨λ_=>rfl,λN=>⟨(λv=>by kernel_rfl),λ_=>rfl,λN v=>by kernel_rfl⟩⟩
theorem Z1c:okE ⟨10,[Zq,Zq],[.bool],u2 Zku⟩:=
 ofE (Za Qa6 (Za Z53 Zh)) Zd func10 call10 .leaf
theorem Z2u:okE ⟨222,[Xr],[.bool],u1 Zvr⟩:=
 ofE (Za Ziv Zh) Zd func222 call222 .leaf
abbrev Zof:FnE:=⟨125,[Xr,.int .i64,.int .i64],[Xr,.bool],u3 Zit⟩
theorem Zmo:okE Zof:=
 ofE (Za Z2u (Za Qp Zh)) Zd func125 call125 (.seq .leaf (.seq .leaf (.join [pV 1 tI,.box 3 30 (Xr) (.u false),.box 6 30 (Xr) (.u false)] (u3 Zst) .leaf .leaf))) (λv=>by kernel_rfl)
theorem Zuv:okE ⟨118,[Zq,Xr,.bool],[.int .i64,.bool],u3 Zf4⟩:=
 ofE (Za Z2u (Za Zmo Zh)) Zd func118 call118 .leaf
theorem Z2t:okE ⟨223,[Qq],[.bool],u1 Zqz⟩:=
 ofE (Za Ztr Zh) Zd func223 call223 .leaf
abbrev Z2b:FnE:=⟨126,[Qq],[Qq,.bool],u1 Zkj⟩
theorem Z04:okE Z2b:=
 ofE (Za Z2t Zh) Zd func126 call126 .leaf
theorem Qgb:okE ⟨119,[Qq,.bool],[.int .i64,.bool],u2 Zq2⟩:=
 ofE (Za Z2t (Za Z04 Zh)) Zd func119 call119 .leaf
theorem Z4r:okE ⟨121,[Qq],[.bool],u1 Zxq⟩:=
 ofE (Za Zcg Zh) Zd func121 call121 .leaf
theorem Z1z:okE ⟨120,[Zq,Zu],[.slice 80 (Zt)],u2 Zh3⟩:=
 ofE (Za Z3r (Za Zuv (Za Z4r Zh))) Zd func120 call120 (.seq .leaf (.seq .leaf (.join [.box 2 37 (Zq) (.u false),.box 3 96 (Zu) (.u false),.val 5 (.slice 80 (Zt)) (.u true)] (u3 Za0) .leaf (.join [.box 2 37 (Zq) (.u false),.box 3 96 (Zu) (.u false),.val 5 (.slice 80 (Zt)) (.u true)] (u3 Za1) .leaf (.join [.box 3 96 (Zu) (.u false),.val 5 (.slice 80 (Zt)) (.u true)] (u2 Za2) .leaf .leaf))))) ⟨(λv=>by kernel_rfl),(λv=>by kernel_rfl),λv=>by kernel_rfl⟩
abbrev Zyd:FnE:=⟨64,[Zq],[.slice 80 (Zt)],u1 Zoh⟩
theorem Z67:okE Zyd:=
 ofE (Za Z08 (Za Zuv (Za Qgb (Za Z1z (Za Z4r Zh))))) Zd func64 call64 (.seq .leaf (.seq .leaf (.seq .leaf (.join [.box 1 37 (Zq) (.u false),.val 3 (.slice 80 (Zt)) (.u true)] (u2 Zem) .leaf (.join [.box 1 37 (Zq) (.u false),.val 3 (.slice 80 (Zt)) (.u true)] (u2 Zen) .leaf (.join [.box 1 37 (Zq) (.u false),.val 3 (.slice 80 (Zt)) (.u true)] (u2 Zeo) .leaf (.seq (.seq .leaf (.block (.loop [.box 1 37 (Zq) (.u false),.val 3 (.slice 80 (Zt)) (.u true),pV 61 (.slice 96 (Zu)),pV 62 tI,pV 63 tI] (λN=>u5 (Zep N)) (u5 Zqu) (λK1=>.leaf)))) (.join [.box 1 37 (Zq) (.u false),.val 3 (.slice 80 (Zt)) (.u true)] (u2 Zjy) .leaf (.join [.box 1 37 (Zq) (.u false),.val 3 (.slice 80 (Zt)) (.u true)] (u2 Zjz) .leaf .leaf))))))))) ⟨(λv=>by kernel_rfl),(λv=>by kernel_rfl),(λv=>by kernel_rfl),⟨λ_=>rfl,λN v=>by kernel_rfl⟩,(λv=>by kernel_rfl),λv=>by kernel_rfl⟩
theorem Z69:okE ⟨225,[.int .i64],[.str],u1 Jc⟩:=
 ofE Zh Zd func225 call225 .leaf
theorem Qin:okE ⟨311,[.int .i64],[.int .i64],u1 Zxs⟩:=
 ofE (Za Ka Zh) Zd func311 call311 .leaf
theorem Z01:okE ⟨228,[.int .i64],[.str],u1 Zah⟩:=
 ofE (Za Qin Zh) Zd func228 call228 (.seq .leaf (.seq .leaf (.seq .leaf (.seq .leaf (.seq (.seq .leaf (.block (.loop [pV 0 tI,pV 3 tI,.val 4 (.slice 5 (.int .u8)) (.u true),pV 5 tI] (λN=>u4 (Ze6 N)) (u4 Zm5) (λK1=>.leaf)))) (.join [.val 4 (.slice 5 (.int .u8)) (.u true)] (u1 Ze5) .leaf .leaf)))))) ⟨⟨λ_=>rfl,λN v=>by kernel_rfl⟩,λv=>by kernel_rfl⟩
theorem Qak:okE ⟨226,[.slice 3 (.int .i64)],[.str],u1 Ze7⟩:=
 ofE (Za Ka (Za Z01 Zh)) Zd func226 call226 (.seq .leaf (.seq .leaf (.seq (.seq .leaf (.block (.loop [pV 3 .str,pV 6 (.slice 3 (.int .i64)),pV 7 tI,pV 8 tI] (λN=>u4 (Zhs N)) (u4 Zl2) (λK1=>.leaf)))) .leaf))) ⟨λ_=>rfl,λN v=>by kernel_rfl⟩
theorem Zzm:okE ⟨122,[Zt],[.str],u1 Zm4⟩:=
 ofE (Za Zd3 (Za Z69 (Za Qak (Za Z8s (Za Z01 Zh))))) Zd func122 call122 (.seq .leaf (.seq .leaf (.seq .leaf (.seq (.seq .leaf (.block (.seq .leaf (.cond .leaf (.seq .leaf (.cond .leaf (.seq .leaf (.cond (.seq .leaf (.join [.box 1 80 (Zt) (.u false),pV 4 .str] (u2 Zhr) .leaf .leaf)) (.join [.box 1 80 (Zt) (.u false),pV 3 (.fnc 225),pV 9 tI,pV 73 .bool] (u4 Jp) .leaf (.cond .leaf (.join [.box 1 80 (Zt) (.u false),pV 3 (.fnc 225),pV 84 .bool] (u3 Za3) .leaf .leaf))))))))))) .leaf)))) ⟨λv=>by kernel_rfl,(λv=>by kernel_rfl),λv=>by kernel_rfl⟩
abbrev Z35:FnE:=⟨65,[Zt],[.int .i64],u1 Zm6⟩
theorem Z2s:okE Z35:=
 ofE (Za Zzm Zh) Zd func65 call65 .leaf
abbrev Zmi:FnE:=⟨127,[Qq],[Qq],u1 Zk6⟩
theorem Zq6:okE Zmi:=
 ofE (Za Zcg Zh) Zd func127 call127 .leaf
abbrev Zwb:Zvd:={f:=129,n:=52,np:=3,rv:=Tryz.f129.results.toList,run:=λln _ k s=>Vo (Ziq [] ln [Zof,Zmi] [] [] []) 52 (Zam Tryz.f129) .leaf k s}
theorem Z4h:Zay Tryz.prog glob Zwb:=Zay.of (C:=Ziq [] [] [Zof,Zmi] [] [] []) (λln=>Ws (ln:=ln) Jh rfl (Za Zmo (Za Zq6 Zh)) Kq Zd Kr) Tryz.func129 rfl Tryz.call129 (by decide) rfl rfl (λ_ _ _=>rfl)
abbrev Zt1:FnE:=⟨66,[Zq,Zt],[Zq],u2 Zr0⟩
theorem Qap:Zn8 Tryz.prog glob Zt1:=by
 refine Zn8.of (e:=Zt1) (C:=Ziq [Zwb] [] [Vn,Zp3,Zc3,Zyf,Zof,Z2b,Zmi] [] [Zk5] []) (Ws (Xs Z4h Jh) rfl (Za Vy (Za Zfa (Za Zbk (Za Zwy (Za Zmo (Za Z04 (Za Zq6 Zh))))))) Kq (Zy Zww Zd) Kr) rfl Tryz.func66 (c:=Zam Tryz.f66) rfl Tryz.call66 (by decide)
  ((.seq .leaf (.join [.box 2 37 (Zq) (.u false),.box 3 80 (Zt) (.u false),.box 4 37 (Zq) (.u true),.box 5 37 (Zq) (.u true),pV 6 tI] (λv=>Zml v.1 v.2.1 v.2.2.1 v.2.2.2.1 v.2.2.2.2.1) .leaf .leaf))) ?_ ?_
 ·exact⟨lf,lf,(λv=>by kernel_rfl),lf⟩
 ·intro xs r h;refine Eq.trans (Eq.symm ?_) h;kernel_rfl
theorem Z4u:okE ⟨232,[.slice 3 (.int .i64),.int .i64],[.int .i64],u2 Zrf⟩:=
 ofE Zh Zd func232 call232 (.seq .leaf (.seq (.seq .leaf (.block (.loop [pV 0 (.slice 3 (.int .i64)),pV 1 tI,pV 7 tI,pV 8 tI] (λN=>u4 (Zck N)) (u4 Zbq) (λK1=>.leaf)))) .leaf)) ⟨λ_=>rfl,λN v=>by kernel_rfl⟩
theorem Z09:okE ⟨133,[.slice 3 (.int .i64),.int .i64],[.bool],u2 Zg0⟩:=
 ofE (Za Z4u Zh) Zd func133 call133 .leaf
abbrev Z7y:FnE:=⟨68,[Zq,.slice 3 (.int .i64)],[.slice 157 (Ql)],u2 Zz5⟩
theorem Qlh:okE Z7y:=
 ofE (Za Qp (Za Z09 Zh)) Zd func68 call68 (.seq .leaf (.seq .leaf (.seq (.seq .leaf (.block (.loop [pV 1 (.slice 3 (.int .i64)),.val 5 (.slice 157 (Ql)) (.u true),pV 11 (.slice 96 (Zu)),pV 12 tI,pV 13 tI] (λN=>u5 (Zko N)) (u5 Zq3) (λK1=>.leaf)))) .leaf))) ⟨λ_=>rfl,λN v=>by kernel_rfl⟩
theorem Zwu:okE ⟨130,[.slice 157 (Ql)],[.bool],u1 Zi8⟩:=
 ofE (Za Ka (Za Z02 Zh)) Zd func130 call130 (.seq .leaf (.seq (.seq .leaf (.block (.loop [pV 0 (.slice 157 (Ql)),pV 5 (.slice 157 (Ql)),pV 6 tI,pV 7 tI] (λN=>u4 (Zbe N)) (u4 Zc8) (λK1=>.leaf)))) .leaf)) ⟨λ_=>rfl,λN v=>by kernel_rfl⟩
theorem Qox:okE ⟨131,[.slice 157 (Ql)],[.slice 157 (Ql)],u1 Z2i⟩:=
 ofE Zh Zd func131 call131 (.seq .leaf (.seq .leaf (.seq (.seq .leaf (.block (.loop [pV 0 (.slice 157 (Ql)),pV 3 tI,.val 4 (.slice 157 (Ql)) (.u true),pV 10 (.slice 157 (Ql)),pV 11 tI,pV 12 tI] (λN=>u6 (Znf N)) (u6 Zmm) (λK1=>.leaf)))) (.seq (.seq .leaf (.block (.loop [pV 3 tI,.val 4 (.slice 157 (Ql)) (.u true),pV 22 (.slice 157 (Ql)),pV 23 tI,pV 24 tI] (λN=>u5 (Zf7 N)) (u5 Zmn) (λK2=>.leaf)))) .leaf)))) ⟨⟨λ_=>rfl,λN v=>by kernel_rfl⟩,λ_=>rfl,λN v=>by kernel_rfl⟩
theorem Qf3:okE ⟨132,[.slice 157 (Ql),.int .i64],[.int .i64],u2 Zvu⟩:=
 ofE (Za Zwu Zh) Zd func132 call132 (.seq .leaf (.seq .leaf (.seq (.seq .leaf (.block (.loop [pV 0 (.slice 157 (Ql)),pV 1 tI,pV 15 (.slice 157 (Ql)),pV 16 tI,pV 17 tI] (λN=>u5 (Zgw N)) (u5 Zh5) (λK1=>.leaf)))) .leaf))) ⟨λ_=>rfl,λN v=>by kernel_rfl⟩
abbrev Z19:FnE:=⟨67,[.slice 157 (Ql),.int .i64],[.int .i64],u2 Zto⟩
theorem Qdb:okE Z19:=
 ofE (Za Zwu (Za Qox (Za Qf3 Zh))) Zd func67 call67 (.seq .leaf (.seq .leaf (.seq .leaf (.seq (.seq .leaf (.block (.loop [pV 1 tI,.val 5 (.slice 157 (Ql)) (.u true),.bor 18 5 [],pV 19 tI,pV 20 tI] (λN=>u4 (Ze9 N)) (u4 Zgv) (λK1=>.leaf)))) .leaf)))) ⟨λ_=>rfl,λN v=>by kernel_rfl⟩
theorem Qcy:okE ⟨134,[Qq],[.int .i64],u1 Zy2⟩:=
 ofE (Za Zcg Zh) Zd func134 call134 .leaf
theorem Qij:okE ⟨234,[Wh,.int .i64,.int .i64],[.str,.bool],u3 Zpm⟩:=
 ofE (Za Z8p (Za Qp Zh)) Zd func234 call234 (.seq .leaf (.seq .leaf (.seq .leaf (.seq (.seq .leaf (.block (.loop [pV 1 tI,.box 3 84 (Wh) (.u false),.val 8 (.slice 5 (.int .u8)) (.u true),pV 35 tI,pV 36 tI] (λN=>u5 (Znb N)) (u5 Zpu) (λK1=>.leaf)))) .leaf)))) ⟨λ_=>rfl,λN v=>by kernel_rfl⟩
theorem Qf2:okE ⟨135,[Z1,.int .i64,.int .i64],[J3,.bool],u3 Zvt⟩:=
 ofE (Za Zxc (Za Z8s (Za Qij Zh))) Zd func135 call135 (.seq .leaf (.seq .leaf (.seq .leaf (.seq .leaf (.seq .leaf (.seq .leaf (.join [.box 3 87 (Z1) (.u false),.box 6 109 (J3) (.u false),.box 8 214 (Zw) (.u false),pV 9 tI] (u4 Zk9) .leaf .leaf))))))) (λv=>by kernel_rfl)
abbrev Z2a:FnE:=⟨73,[.int .i64,J3],[Zt],u2 Zki⟩
theorem Z03:okE Z2a:=
 ofE Zh Zd func73 call73 .leaf
abbrev Z6r:FnE:=⟨69,[Zq,.int .i64,.int .i64],[J3,.bool],u3 Zxr⟩
theorem Qik:okE Z6r:=
 ofE (Za Zfa (Za Zbk (Za Qcy (Za Qf2 (Za Z03 (Za Z2s (Za Qp Zh))))))) Zd func69 call69 (.seq .leaf (.seq .leaf (.seq .leaf (.seq .leaf (.seq .leaf (.seq (.seq .leaf (.block (.loop [pV 1 tI,pV 2 tI,.box 6 109 (J3) (.u false),.box 9 96 (Zu) (.u false),pV 10 tI,pV 11 tI] (λN=>u6 (Zis N)) (u6 Zpv) (λK1=>.leaf)))) .leaf)))))) ⟨λ_=>rfl,λN v=>by kernel_rfl⟩
abbrev Z0p:FnE:=⟨71,[Qq],[Qq],u1 Zr1⟩
theorem Qar:okE Z0p:=
 ofE (Za Zcg Zh) Zd func71 call71 .leaf
theorem Qiq:okE ⟨235,[Z1,J3],[.bool],u2 Zxu⟩:=
 ofE Zh Zd func235 call235 .leaf
theorem Z8h:okE ⟨237,[.slice 214 (Zw),.slice 214 (Zw)],[.slice 214 (Zw)],u2 Zp6⟩:=
 ofE (Za Ziu Zh) Zd func237 call237 (.seq .leaf (.seq .leaf (.seq .leaf (.seq (.seq .leaf (.block (.loop [pV 1 (.slice 214 (Zw)),.val 5 (.slice 214 (Zw)) (.u true),pV 22 (.slice 214 (Zw)),pV 23 tI,pV 24 tI] (λN=>u5 (Zcc N)) (u5 Zee) (λK1=>(.seq .leaf (.seq .leaf (.seq (.block (.seq .leaf (.seq .leaf (.block (.loop [pV 1 (.slice 214 (Zw)),.val 5 (.slice 214 (Zw)) (.u true),.box 7 214 (Zw) (.u false),pV 22 (.slice 214 (Zw)),pV 23 tI,pV 24 tI,pV 28 (.slice 214 (Zw)),pV 29 tI,pV 30 tI] (λN=>u9 (Wu K1 N)) (u9 Zkb) (λK2=>.leaf)))))) .leaf))))))) .leaf)))) ⟨λ_=>rfl,λN=>⟨(λv=>by kernel_rfl),λ_=>rfl,λN v=>by kernel_rfl⟩⟩
theorem Zsb:okE ⟨313,[.slice 214 (Zw),.slice 214 (Zw)],[.bool],u2 Kb⟩:=
 ofE Zh Zd func313 call313 (.seq .leaf (.seq .leaf (.seq (.seq .leaf (.block (.loop [pV 0 (.slice 214 (Zw)),pV 1 (.slice 214 (Zw)),pV 12 tI,pV 13 tI] (λN=>u4 (Xt N)) (u4 Y3) (λK1=>.leaf)))) .leaf))) ⟨λ_=>rfl,λN v=>by kernel_rfl⟩
theorem Zzn:okE ⟨236,[.slice 214 (Zw),.slice 214 (Zw)],[.bool],u2 Zan⟩:=
 ofE (Za Zsb Zh) Zd func236 call236 .leaf
theorem Qau:okE ⟨238,[.slice 214 (Zw),Zw],[.slice 214 (Zw)],u2 Zr3⟩:=
 ofE (Za Ziu (Za Zy9 (Za Zom Zh))) Zd func238 call238 (.seq .leaf (.seq .leaf (.seq .leaf (.seq (.seq .leaf (.block (.loop [.box 3 214 (Zw) (.u false),.val 5 (.slice 214 (Zw)) (.u true),pV 19 (.slice 214 (Zw)),pV 20 tI,pV 21 tI] (λN=>u5 (V7 N)) (u5 Zft) (λK1=>(.seq .leaf (.seq .leaf (.seq (.block (.seq .leaf (.join [.box 3 214 (Zw) (.u false),.val 5 (.slice 214 (Zw)) (.u true),.box 7 214 (Zw) (.u false),pV 19 (.slice 214 (Zw)),pV 20 tI,pV 21 tI] (u6 (Zhu K1)) .leaf .leaf))) .leaf))))))) .leaf)))) ⟨λ_=>rfl,λN=>⟨(λv=>by kernel_rfl),λv=>by kernel_rfl⟩⟩
theorem Qf7:okE ⟨136,[Z1,J3],[Z1,.bool],u2 Zvw⟩:=
 ofE (Za Zt8 (Za Zxc (Za Qiq (Za Z8h (Za Zzn (Za Qau (Za Z4n (Za Z2v Zh)))))))) Zd func136 call136 (.seq .leaf (.seq .leaf (.seq .leaf (.join [.box 3 109 (J3) (.u false),.box 4 87 (Z1) (.u true),.box 6 87 (Z1) (.p (.u false) (.p (.u true) (.p (.u true) (.p (.u true) (.p (.u true) (.u false))))))] (u3 Zlb) (.seq .leaf (.cond (.seq .leaf (.seq (.join [.box 2 87 (Z1) (.u false),.box 3 109 (J3) (.u false),.box 4 87 (Z1) (.u true),.box 6 87 (Z1) (.u true),.box 7 214 (Zw) (.u false),pV 59 .bool] (u6 Zvx) .leaf .leaf) .leaf)) .leaf)) (.join [.box 4 87 (Z1) (.u true),.box 6 87 (Z1) (.p (.u false) (.p (.u true) (.p (.u true) (.p (.u true) (.p (.u true) (.u false))))))] (u2 Zqb) .leaf .leaf))))) ⟨λv=>by kernel_rfl,(λv=>by kernel_rfl),λv=>by kernel_rfl⟩
theorem Qf9:okE ⟨137,[Qq,.int .i64],[Qq,.bool],u2 Zq0⟩:=
 ofE (Za Zcg (Za Qp Zh)) Zd func137 call137 .leaf
abbrev Z36:FnE:=⟨72,[Zq,.int .i64,J3],[Zq,.bool],u3 Zvp⟩
theorem Qfx:okE Z36:=
 ofE (Za Vy (Za Zfa (Za Zbk (Za Qf7 (Za Qf9 Zh))))) Zd func72 call72 (.seq .leaf (.join [pV 1 tI,.box 3 37 (Zq) (.u false),.box 5 109 (J3) (.u false),.box 6 37 (Zq) (.u true),.box 8 37 (Zq) (.u true),pV 9 tI] (u6 Zp9) .leaf (.seq .leaf (.seq .leaf (.join [pV 1 tI,.box 3 37 (Zq) (.u false),.box 6 37 (Zq) (.u true),.box 8 37 (Zq) (.u true),.elp 10 8 [3] [],.box 11 87 (Z1) (.u true),pV 12 .bool] (u7 Zvq) .leaf .leaf))))) ⟨(λv=>by kernel_rfl),λv=>by kernel_rfl⟩
abbrev Zye:FnE:=⟨74,[.slice 80 (Zt)],[.str],u1 Zoi⟩
theorem Z7a:okE Zye:=
 ofE (Za Zd3 (Za Zzm Zh)) Zd func74 call74 (.seq .leaf (.seq .leaf (.seq (.seq .leaf (.block (.loop [pV 3 .str,pV 6 (.slice 80 (Zt)),pV 7 tI,pV 8 tI] (λN=>u4 (Zeq N)) (u4 Zja) (λK1=>.leaf)))) .leaf))) ⟨λ_=>rfl,λN v=>by kernel_rfl⟩
abbrev Z15:FnB:=⟨38,[.sh (Zq),.sh (.int .i64)],.shr [.str,.int .i64,Zq],u2 Zkh⟩
theorem Qc0:Z31 Tryz.prog glob Z15:=by
 refine Z31.of (e:=Z15) (C:=Ziq [Vs] [] [Vn,Qbx,Z3j,Zyd,Z35,Zt1,Z7y,Z19,Z6r,Z0p,Z36,Z2a,Zye] [] [] []) (Ws (Xs Zkp Jh) rfl (Za Vy (Za Z08 (Za Qp (Za Z67 (Za Z2s (Za Qap (Za Qlh (Za Qdb (Za Qik (Za Qar (Za Qfx (Za Z03 (Za Z7a Zh))))))))))))) Kq Zd Kr) rfl rfl Tryz.func38 (c:=Zam Tryz.f38) rfl Tryz.call38 (by decide)
  ((.seq .leaf (.seq .leaf (.seq (.seq .leaf (.cond (.seq .leaf (.frz [(6,.u false)])) .leaf)) (.seq .leaf (.seq (.seq .leaf (.block (.loop [.box 6 37 (Zq) (.u true),.box 7 37 (Zq) (.u true),.val 8 (.slice 80 (Zt)) (.u true),.val 9 (.slice 3 (.int .i64)) (.u true),pV 10 tI,.val 40 (.slice 80 (Zt)) (.u true),pV 41 tI,pV 42 tI] (λN v=>J9 N v.1 v.2.1 v.2.2.1 v.2.2.2.1 v.2.2.2.2.1 v.2.2.2.2.2.1 v.2.2.2.2.2.2.1 v.2.2.2.2.2.2.2.1) (λv=>Zgs v.1 v.2.1 v.2.2.1 v.2.2.2.1 v.2.2.2.2.1 v.2.2.2.2.2.1 v.2.2.2.2.2.2.1 v.2.2.2.2.2.2.2.1) (λK1=>.leaf)))) (.join [.box 6 37 (Zq) (.u true),.box 7 37 (Zq) (.u true),.val 8 (.slice 80 (Zt)) (.u true)] (λv=>Zb0 v.1 v.2.1 v.2.2.1) (.seq .leaf (.block (.loop [.box 6 37 (Zq) (.u true),.box 7 37 (Zq) (.u true),.val 8 (.slice 80 (Zt)) (.u true),.val 9 (.slice 3 (.int .i64)) (.u true),pV 10 tI,pV 62 tI] (λN v=>Wv N v.1 v.2.1 v.2.2.1 v.2.2.2.1 v.2.2.2.2.1 v.2.2.2.2.2.1) (λv=>Zgt v.1 v.2.1 v.2.2.1 v.2.2.2.1 v.2.2.2.2.1 v.2.2.2.2.2.1) (λK2=>.leaf)))) (.seq (.seq .leaf (.cond (.seq .leaf (.frz [(6,.u false)])) .leaf)) (.seq (.frz [(8,.u false)]) (.seq .leaf (.seq .leaf (.frz [(6,.u false)])))))))))))) ?_ ?_
 ·exact⟨lf,lf,⟨lf,⟨lf,trivial⟩,lf⟩,lf,⟨lf,λ_=>rfl,λN=>⟨(λv=>by kernel_rfl),lf⟩⟩,⟨lf,λ_=>rfl,λN=>⟨(λv=>by kernel_rfl),lf⟩⟩,(λv=>by kernel_rfl),⟨lf,⟨lf,trivial⟩,lf⟩,trivial,lf,lf,trivial⟩
 ·intro xs r h;refine Eq.trans (Eq.symm ?_) h;kernel_rfl
theorem Qqn:okE ⟨246,[Zu],[.arr 7 (.bool)],u1 Z5t⟩:=
 ofE Zh Zd func246 call246 .leaf
theorem Z4t:okE ⟨364,[.slice 3 (.int .i64),.slice 3 (.int .i64)],[.bool],u2 Zll⟩:=
 ofE Zh Zd func364 call364 (.seq .leaf (.seq .leaf (.seq (.seq .leaf (.block (.loop [pV 0 (.slice 3 (.int .i64)),pV 1 (.slice 3 (.int .i64)),pV 12 tI,pV 13 tI] (λN=>u4 (Zcj N)) (u4 Zhb) (λK1=>.leaf)))) .leaf))) ⟨λ_=>rfl,λN v=>by kernel_rfl⟩
theorem Qc2:okE ⟨321,[Wh,Wh],[.bool],u2 Zy3⟩:=
 ofE (Za Z4t Zh) Zd func321 call321 .leaf
theorem Z8k:okE ⟨247,[Z1,Z1],[.bool],u2 Zp7⟩:=
 ofE (Za Qc2 (Za Zzn Zh)) Zd func247 call247 .leaf
theorem Zr9:okE ⟨365,[.slice 268 (Zf2),.slice 268 (Zf2)],[.bool],u2 Vd⟩:=
 ofE Zh Zd func365 call365 (.seq .leaf (.seq .leaf (.seq (.seq .leaf (.block (.loop [pV 0 (.slice 268 (Zf2)),pV 1 (.slice 268 (Zf2)),pV 12 tI,pV 13 tI] (λN=>u4 (Yj N)) (u4 Ve) (λK1=>.leaf)))) .leaf))) ⟨λ_=>rfl,λN v=>by kernel_rfl⟩
theorem Z8j:okE ⟨322,[Xe,Xe],[.bool],u2 Zvm⟩:=
 ofE (Za Zr9 Zh) Zd func322 call322 .leaf
theorem Z51:okE ⟨248,[Qi,Qi],[.bool],u2 Zmk⟩:=
 ofE (Za Z8j Zh) Zd func248 call248 .leaf
theorem Z8l:okE ⟨148,[Zu,Zu],[.bool],u2 Zp8⟩:=
 ofE (Za Qqn (Za Z8k (Za Z51 Zh))) Zd func148 call148 .leaf
theorem J0:okE ⟨147,[.slice 96 (Zu),.slice 96 (Zu),.fnc 148],[.bool],λxs=>Qe xs.1 xs.2.1⟩:=
 ofE (Za Z8l Zh) Zd func147 call147 (.seq .leaf (.seq .leaf (.seq (.seq .leaf (.block (.loop [pV 1 (.slice 96 (Zu)),pV 2 (.fnc 148),pV 15 (.slice 96 (Zu)),pV 16 tI,pV 17 tI] (λN=>u5 (Z2 N)) (u5 Qs) (λK1=>.leaf)))) .leaf))) ⟨λ_=>rfl,λN v=>by kernel_rfl⟩
theorem Qal:okE ⟨84,[.slice 96 (Zu),.slice 96 (Zu)],[.bool],u2 Zw5⟩:=
 ofE (Za J0 Zh) Zd func84 call84 .leaf
theorem Zsa:okE ⟨149,[.slice 80 (Zt),.slice 80 (Zt)],[.bool],u2 Vf⟩:=
 ofE Zh Zd func149 call149 (.seq .leaf (.seq .leaf (.seq (.seq .leaf (.block (.loop [pV 0 (.slice 80 (Zt)),pV 1 (.slice 80 (Zt)),pV 12 tI,pV 13 tI] (λN=>u4 (Yk N)) (u4 Vg) (λK1=>.leaf)))) .leaf))) ⟨λ_=>rfl,λN v=>by kernel_rfl⟩
theorem Qaz:okE ⟨86,[Yo,Yo],[.bool],u2 Zr6⟩:=
 ofE (Za Zsa Zh) Zd func86 call86 .leaf
theorem J4:okE ⟨85,[.slice 63 (Yo),.slice 63 (Yo),.fnc 86],[.bool],λxs=>Qh xs.1 xs.2.1⟩:=
 ofE (Za Qaz Zh) Zd func85 call85 (.seq .leaf (.seq .leaf (.seq (.seq .leaf (.block (.loop [pV 1 (.slice 63 (Yo)),pV 2 (.fnc 86),pV 15 (.slice 63 (Yo)),pV 16 tI,pV 17 tI] (λN=>u5 (Z3 N)) (u5 Qu) (λK1=>.leaf)))) .leaf))) ⟨λ_=>rfl,λN v=>by kernel_rfl⟩
theorem Qc1:okE ⟨41,[Zq,Zq],[.bool],u2 Zti⟩:=
 ofE (Za Qal (Za J4 Zh)) Zd func41 call41 .leaf
theorem Qig:okE ⟨13,[Zq],[.bool],u1 Zl4⟩:=
 ofE (Za Zbk (Za Zxb (Za Qc1 Zh))) (Zy Qc0 Zd) func13 call13 .leaf
theorem Z8v:okB ⟨14,[.sh (.slice 5 (.int .u8))],.shr [Zq],u1 Zln⟩:=
 ofB [] (Za Z2w Zh) (Zy Z3t (Zy Z84 (Zy Zq9 Zd))) func14 call14 (.seq .leaf (.seq .leaf (.seq .leaf (.seq (.seq .leaf (.cond (.seq .leaf (.frz [(2,.u false)])) .leaf)) .leaf))))
theorem Z7e:okE ⟨15,[.slice 5 (.int .u8)],[.int .i64],u1 Zjn⟩:=
 ofE Zh (Zy Z3t (Zy Yp Zd)) func15 call15 .leaf
theorem Qix:okE ⟨16,[Zq],[.bool],u1 Ztf⟩:=
 ofE (Za Vq (Za Zsc (Za Z1c Zh))) (Zy Z1b Zd) func16 call16 .leaf
theorem Qfw:okE ⟨17,[.int .i64],[.str],u1 Zqw⟩:=
 ofE Zh Zd func17 call17 .leaf
theorem Qgd:okE ⟨18,[.int .i64],[.str],u1 Zrj⟩:=
 ofE Zh Zd func18 call18 .leaf
abbrev Zy0:FnE:=⟨3,[.slice 5 (.int .u8)],[.bool],u1 Zxv⟩
theorem Qir:okE Zy0:=
 ofE (Za Qwr (Za Z8m (Za Qc3 (Za Qdl (Za Z1c (Za Vq (Za Zsc (Za Qig (Za Z7e (Za Qix (Za Qfw (Za Qgd Zh)))))))))))) (Zy Z3s (Zy Z8z (Zy Z8v Zd))) func3 call3 .leaf
end
end Go.Proofs.YtfhellopliifdaaGreat

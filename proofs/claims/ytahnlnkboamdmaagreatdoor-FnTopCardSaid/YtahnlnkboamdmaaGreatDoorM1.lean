/- No condition. -/
import Derived.Test.YtahnlnkboamdmaaGreatDoorRows
import Derived.Test.YtahnlnkboamdmaaGreatDoorAm6
import Derived.Test.YtahnlnkboamdmaaGreatDoorShelf
import Derived.Lib.AppendIntMem
import Derived.Lib.SplitLaws
import Derived.Lib.IndexMore
import Derived.Lib.Atoi
import Derived.Lib.AtoiBound
import Derived.Lib.Join
import Derived.Lib.ItoaNum
import Derived.Lib.ItoaLen
noncomputable section
set_option linter.all false
namespace Go.Proofs.YtahnlnkboamdmaaGreatDoor
open Go.Am
set_option maxRecDepth 100000
open Option renaming some→Y,none→Lb,bind→Le
open Bool renaming false→Z,true→La
open Go renaming IntKind→K2
open IntKind renaming i64→K3,u8→Ld
open Decidable renaming decide→K4
open Int renaming tmod→Lc,tdiv→Lf
open List renaming replicate→Lg
abbrev Oa(a:Type):Type:=Option (a×Unit)
abbrev Oc(a b:Type):Type:=Option (a×b×Unit)
abbrev Od(a b c:Type):Type:=Option (a×b×c×Unit)
abbrev Ba:Type:=List UInt8
abbrev tA{a b c d e g h i j k l m n o p:Type}(x:a×b×c×d×e×g×h×i×j×k×l×m×n×o×p)(v0:o):a×b×c×d×e×g×h×i×j×k×l×m×n×o×p:=(x.1,x.2.1,x.2.2.1,x.2.2.2.1,x.2.2.2.2.1,x.2.2.2.2.2.1,x.2.2.2.2.2.2.1,x.2.2.2.2.2.2.2.1,x.2.2.2.2.2.2.2.2.1,x.2.2.2.2.2.2.2.2.2.1,x.2.2.2.2.2.2.2.2.2.2.1,x.2.2.2.2.2.2.2.2.2.2.2.1,x.2.2.2.2.2.2.2.2.2.2.2.2.1,v0,x.2.2.2.2.2.2.2.2.2.2.2.2.2.2)
abbrev tB{a b c d e g h i j k l:Type}(x:a×b×c×d×e×g×h×i×j×k×l)(v0:k):a×b×c×d×e×g×h×i×j×k×l:=(x.1,x.2.1,x.2.2.1,x.2.2.2.1,x.2.2.2.2.1,x.2.2.2.2.2.1,x.2.2.2.2.2.2.1,x.2.2.2.2.2.2.2.1,x.2.2.2.2.2.2.2.2.1,v0,x.2.2.2.2.2.2.2.2.2.2)
abbrev tC{a b c d e g h i j k:Type}(x:a×b×c×d×e×g×h×i×j×k)(v0:j):a×b×c×d×e×g×h×i×j×k:=(x.1,x.2.1,x.2.2.1,x.2.2.2.1,x.2.2.2.2.1,x.2.2.2.2.2.1,x.2.2.2.2.2.2.1,x.2.2.2.2.2.2.2.1,v0,x.2.2.2.2.2.2.2.2.2)
abbrev tD{a b c d e:Type}(x:a×b×c×d×e)(v0:d):a×b×c×d×e:=(x.1,x.2.1,x.2.2.1,v0,x.2.2.2.2)
abbrev tE{a b c d e g h i j k l m:Type}(x:a×b×c×d×e×g×h×i×j×k×l×m)(v0:l):a×b×c×d×e×g×h×i×j×k×l×m:=(x.1,x.2.1,x.2.2.1,x.2.2.2.1,x.2.2.2.2.1,x.2.2.2.2.2.1,x.2.2.2.2.2.2.1,x.2.2.2.2.2.2.2.1,x.2.2.2.2.2.2.2.2.1,x.2.2.2.2.2.2.2.2.2.1,v0,x.2.2.2.2.2.2.2.2.2.2.2)
abbrev tF{a b c d e g h i:Type}(x:a×b×c×d×e×g×h×i)(v0:h):a×b×c×d×e×g×h×i:=(x.1,x.2.1,x.2.2.1,x.2.2.2.1,x.2.2.2.2.1,x.2.2.2.2.2.1,v0,x.2.2.2.2.2.2.2)
abbrev tG{a b c d e g:Type}(x:a×b×c×d×e×g)(v0:e):a×b×c×d×e×g:=(x.1,x.2.1,x.2.2.1,x.2.2.2.1,v0,x.2.2.2.2.2)
abbrev tH{a b c d e g h i j k l m n o p q r:Type}(x:a×b×c×d×e×g×h×i×j×k×l×m×n×o×p×q×r)(v0:q):a×b×c×d×e×g×h×i×j×k×l×m×n×o×p×q×r:=(x.1,x.2.1,x.2.2.1,x.2.2.2.1,x.2.2.2.2.1,x.2.2.2.2.2.1,x.2.2.2.2.2.2.1,x.2.2.2.2.2.2.2.1,x.2.2.2.2.2.2.2.2.1,x.2.2.2.2.2.2.2.2.2.1,x.2.2.2.2.2.2.2.2.2.2.1,x.2.2.2.2.2.2.2.2.2.2.2.1,x.2.2.2.2.2.2.2.2.2.2.2.2.1,x.2.2.2.2.2.2.2.2.2.2.2.2.2.1,x.2.2.2.2.2.2.2.2.2.2.2.2.2.2.1,v0,x.2.2.2.2.2.2.2.2.2.2.2.2.2.2.2.2)
abbrev tJ{a b c d e g h i j k l m n o p q r s u:Type}(x:a×b×c×d×e×g×h×i×j×k×l×m×n×o×p×q×r×s×u)(v0:s):a×b×c×d×e×g×h×i×j×k×l×m×n×o×p×q×r×s×u:=(x.1,x.2.1,x.2.2.1,x.2.2.2.1,x.2.2.2.2.1,x.2.2.2.2.2.1,x.2.2.2.2.2.2.1,x.2.2.2.2.2.2.2.1,x.2.2.2.2.2.2.2.2.1,x.2.2.2.2.2.2.2.2.2.1,x.2.2.2.2.2.2.2.2.2.2.1,x.2.2.2.2.2.2.2.2.2.2.2.1,x.2.2.2.2.2.2.2.2.2.2.2.2.1,x.2.2.2.2.2.2.2.2.2.2.2.2.2.1,x.2.2.2.2.2.2.2.2.2.2.2.2.2.2.1,x.2.2.2.2.2.2.2.2.2.2.2.2.2.2.2.1,x.2.2.2.2.2.2.2.2.2.2.2.2.2.2.2.2.1,v0,x.2.2.2.2.2.2.2.2.2.2.2.2.2.2.2.2.2.2)
abbrev tK{a b c d e g h i j k l m n o p q r s:Type}(x:a×b×c×d×e×g×h×i×j×k×l×m×n×o×p×q×r×s)(v0:r):a×b×c×d×e×g×h×i×j×k×l×m×n×o×p×q×r×s:=(x.1,x.2.1,x.2.2.1,x.2.2.2.1,x.2.2.2.2.1,x.2.2.2.2.2.1,x.2.2.2.2.2.2.1,x.2.2.2.2.2.2.2.1,x.2.2.2.2.2.2.2.2.1,x.2.2.2.2.2.2.2.2.2.1,x.2.2.2.2.2.2.2.2.2.2.1,x.2.2.2.2.2.2.2.2.2.2.2.1,x.2.2.2.2.2.2.2.2.2.2.2.2.1,x.2.2.2.2.2.2.2.2.2.2.2.2.2.1,x.2.2.2.2.2.2.2.2.2.2.2.2.2.2.1,x.2.2.2.2.2.2.2.2.2.2.2.2.2.2.2.1,v0,x.2.2.2.2.2.2.2.2.2.2.2.2.2.2.2.2.2)
abbrev tL{a b c d e g h i j:Type}(x:a×b×c×d×e×g×h×i×j)(v0:i):a×b×c×d×e×g×h×i×j:=(x.1,x.2.1,x.2.2.1,x.2.2.2.1,x.2.2.2.2.1,x.2.2.2.2.2.1,x.2.2.2.2.2.2.1,v0,x.2.2.2.2.2.2.2.2)
abbrev tM{a b c d e g h i j k l m n:Type}(x:a×b×c×d×e×g×h×i×j×k×l×m×n)(v0:m):a×b×c×d×e×g×h×i×j×k×l×m×n:=(x.1,x.2.1,x.2.2.1,x.2.2.2.1,x.2.2.2.2.1,x.2.2.2.2.2.1,x.2.2.2.2.2.2.1,x.2.2.2.2.2.2.2.1,x.2.2.2.2.2.2.2.2.1,x.2.2.2.2.2.2.2.2.2.1,x.2.2.2.2.2.2.2.2.2.2.1,v0,x.2.2.2.2.2.2.2.2.2.2.2.2)
abbrev tN{a b c d e g h i j k l m n o:Type}(x:a×b×c×d×e×g×h×i×j×k×l×m×n×o)(v0:n):a×b×c×d×e×g×h×i×j×k×l×m×n×o:=(x.1,x.2.1,x.2.2.1,x.2.2.2.1,x.2.2.2.2.1,x.2.2.2.2.2.1,x.2.2.2.2.2.2.1,x.2.2.2.2.2.2.2.1,x.2.2.2.2.2.2.2.2.1,x.2.2.2.2.2.2.2.2.2.1,x.2.2.2.2.2.2.2.2.2.2.1,x.2.2.2.2.2.2.2.2.2.2.2.1,v0,x.2.2.2.2.2.2.2.2.2.2.2.2.2)
abbrev tO{a b c d:Type}(x:a×b×c×d)(v0:c):a×b×c×d:=(x.1,x.2.1,v0,x.2.2.2)
abbrev tP{a b c d e g h i j k l m n o p:Type}(x:a×b×c×d×e×g×h×i×j×k×l×m×n×o×p)(v0:d)(v1:e)(v2:o):a×b×c×d×e×g×h×i×j×k×l×m×n×o×p:=(x.1,x.2.1,x.2.2.1,v0,v1,x.2.2.2.2.2.1,x.2.2.2.2.2.2.1,x.2.2.2.2.2.2.2.1,x.2.2.2.2.2.2.2.2.1,x.2.2.2.2.2.2.2.2.2.1,x.2.2.2.2.2.2.2.2.2.2.1,x.2.2.2.2.2.2.2.2.2.2.2.1,x.2.2.2.2.2.2.2.2.2.2.2.2.1,v2,x.2.2.2.2.2.2.2.2.2.2.2.2.2.2)
abbrev tQ{a b c d e g h:Type}(x:a×b×c×d×e×g×h)(v0:d)(v1:g):a×b×c×d×e×g×h:=(x.1,x.2.1,x.2.2.1,v0,x.2.2.2.2.1,v1,x.2.2.2.2.2.2)
abbrev tR{a b c d e g h:Type}(x:a×b×c×d×e×g×h)(v0:g):a×b×c×d×e×g×h:=(x.1,x.2.1,x.2.2.1,x.2.2.2.1,x.2.2.2.2.1,v0,x.2.2.2.2.2.2)
abbrev tS{a b c d e g h i j k l m n o:Type}(x:a×b×c×d×e×g×h×i×j×k×l×m×n×o)(v0:k)(v1:n):a×b×c×d×e×g×h×i×j×k×l×m×n×o:=(x.1,x.2.1,x.2.2.1,x.2.2.2.1,x.2.2.2.2.1,x.2.2.2.2.2.1,x.2.2.2.2.2.2.1,x.2.2.2.2.2.2.2.1,x.2.2.2.2.2.2.2.2.1,v0,x.2.2.2.2.2.2.2.2.2.2.1,x.2.2.2.2.2.2.2.2.2.2.2.1,v1,x.2.2.2.2.2.2.2.2.2.2.2.2.2)
abbrev tT{a b c:Type}(x:a×b×c)(v0:b):a×b×c:=(x.1,v0,x.2.2)
abbrev tU{a b c d e g h i j k l m n:Type}(x:a×b×c×d×e×g×h×i×j×k×l×m×n)(v0:j)(v1:m):a×b×c×d×e×g×h×i×j×k×l×m×n:=(x.1,x.2.1,x.2.2.1,x.2.2.2.1,x.2.2.2.2.1,x.2.2.2.2.2.1,x.2.2.2.2.2.2.1,x.2.2.2.2.2.2.2.1,v0,x.2.2.2.2.2.2.2.2.2.1,x.2.2.2.2.2.2.2.2.2.2.1,v1,x.2.2.2.2.2.2.2.2.2.2.2.2)
abbrev tV{a b c d e g h i j k:Type}(x:a×b×c×d×e×g×h×i×j×k)(v0:b)(v1:j):a×b×c×d×e×g×h×i×j×k:=(x.1,v0,x.2.2.1,x.2.2.2.1,x.2.2.2.2.1,x.2.2.2.2.2.1,x.2.2.2.2.2.2.1,x.2.2.2.2.2.2.2.1,v1,x.2.2.2.2.2.2.2.2.2)
abbrev tW{a b c d e g h i j k l m:Type}(x:a×b×c×d×e×g×h×i×j×k×l×m)(v0:g)(v1:l):a×b×c×d×e×g×h×i×j×k×l×m:=(x.1,x.2.1,x.2.2.1,x.2.2.2.1,x.2.2.2.2.1,v0,x.2.2.2.2.2.2.1,x.2.2.2.2.2.2.2.1,x.2.2.2.2.2.2.2.2.1,x.2.2.2.2.2.2.2.2.2.1,v1,x.2.2.2.2.2.2.2.2.2.2.2)
abbrev Yn:Ty:=.pair (.int .i64) (.pair (.bool) (.unit))
abbrev Q7:Type:=Int×Bool×Unit
abbrev fc:Ty:=.pair (.int .i64) (.pair (.str) (.unit))
abbrev Qd:Type:=Int×Ba×Unit
def Qt:Qd:=(0,[],())
abbrev Zz:Ty:=.pair (.int .i64) (.pair (.int .i64) (.unit))
abbrev Zi:Type:=Int×Int×Unit
def Z3:Zi:=(0,0,())
abbrev ci:Ty:=.pair (.int .i64) Zz
abbrev dn:Type:=Int×Zi
def qq:dn:=(0,0,0,())
abbrev Km:Ty:=.pair (.int .i64) (.pair (.str) (.pair (.bool) (.unit)))
abbrev Qe:Type:=Int×Ba×Bool×Unit
def iK:Qe:=(0,[],Z,())
abbrev oR:Ty:=.pair (.slice 5 (.int .u8)) Zz
abbrev Ku:Type:=List Int×Zi
abbrev Qx:Ty:=.pair (.int .i64) ci
abbrev Qu:Type:=Int×dn
def Qcr:Qu:=(0,0,0,0,())
abbrev Jp:Ty:=.pair (.int .i64) (.pair (.int .i64) fc)
abbrev Yk:Type:=Int×Int×Qd
def KK:Yk:=(0,0,0,[],())
abbrev Qr:Ty:=.pair (.int .i64) (.pair Yn (.unit))
abbrev Zo:Type:=Int×Q7×Unit
def Qs:Zo:=(0,(0,Z,()),())
abbrev Xh:Ty:=.pair (.int .i64) (.pair (.slice 274 fc) (.unit))
abbrev Zv:Type:=Int×List Qd×Unit
def Zyi:Zv:=(0,[],())
abbrev Ks:Ty:=.pair (.int .i64) (.pair (.int .i64) (.pair (.int .i64) (.pair (.slice 3 (.int .i64)) (.unit))))
abbrev Q2:Type:=Int×Int×Int×List Int×Unit
def Zfw:Q2:=(0,0,0,[],())
abbrev Yi:Ty:=.pair (.int .i64) (.pair (.int .i64) Qx)
abbrev Ql:Type:=Int×Int×Qu
def Zln:Ql:=(0,0,0,0,0,0,())
abbrev ot:Ty:=.pair (.int .i64) (.pair (.int .i64) Yi)
abbrev ks:Type:=Int×Int×Ql
abbrev Zt:Ty:=.pair (.int .i64) (.pair (.int .i64) (.pair (.int .i64) (.pair (.str) (.pair (.bool) (.pair (.int .i64) (.pair (.int .i64) Yn))))))
abbrev Zj:Type:=Int×Int×Int×Ba×Bool×Int×Int×Q7
def Qc:Zj:=(0,0,0,[],Z,0,0,0,Z,())
abbrev Qi:Ty:=.pair (.int .i64) (.pair Xh ci)
abbrev Zu:Type:=Int×Zv×dn
def qr:Zu:=(0,(0,[],()),0,0,0,())
abbrev X8:Ty:=.pair (.int .i64) (.pair (.slice 118 Zt) (.unit))
abbrev Z6:Type:=Int×List Zj×Unit
def Q1:Z6:=(0,[],())
abbrev Zx:Ty:=.pair (.int .i64) (.pair Ks (.pair (.slice 218 Zz) (.pair (.slice 218 Zz) (.pair (.slice 218 Zz) Qx))))
abbrev Zk:Type:=Int×Q2×List Zi×List Zi×List Zi×Qu
def Yw:Zk:=(0,(0,0,0,[],()),[],[],[],0,0,0,0,())
abbrev Zy:Ty:=.pair (.int .i64) (.pair Zx (.pair Qx (.pair Qi (.pair Yi (.pair Yn (.pair (.bool) (.pair (.bool) (.pair (.bool) (.pair (.bool) (.pair (.bool) (.pair (.bool) Yn)))))))))))
abbrev Zf:Type:=Int×Zk×Qu×Zu×Ql×Q7×Bool×Bool×Bool×Bool×Bool×Bool×Q7
def Zc:Zf:=(0,(0,(0,0,0,[],()),[],[],[],0,0,0,0,()),(0,0,0,0,()),(0,(0,[],()),0,0,0,()),(0,0,0,0,0,0,()),(0,Z,()),Z,Z,Z,Z,Z,Z,0,Z,())
abbrev Zq:Ty:=.pair (.bool) (.pair ot (.pair ot (.pair (.slice 62 Zy) (.pair Qx (.pair Yi (.pair ci (.pair ci (.pair Qx (.pair Qx (.pair (.bool) (.pair (.bool) (.pair (.bool) (.pair (.int .i64) (.pair (.int .i64) (.pair (.slice 166 X8) Zz)))))))))))))))
abbrev Ze:Type:=Bool×ks×ks×List Zf×Qu×Ql×dn×dn×Qu×Qu×Bool×Bool×Bool×Int×Int×List Z6×Zi
def X9:Ze:=(Z,(0,0,0,0,0,0,0,0,()),(0,0,0,0,0,0,0,0,()),[],(0,0,0,0,()),(0,0,0,0,0,0,()),(0,0,0,()),(0,0,0,()),(0,0,0,0,()),(0,0,0,0,()),Z,Z,Z,0,0,[],0,0,())
abbrev gG{β:Type}(n i:Int)(k:Option β):Option β:=Zh (0<=i/\i<n) k
abbrev gH(c:Bool)(k:Oa Bool):Oa Bool:=cond c (Y (Z,())) k
abbrev gI(l:List Zi)(i:Int):Zi:=l.getD i.toNat Z3
abbrev gJ(l:List Qd)(i:Int):Qd:=l.getD i.toNat Qt
abbrev gK(l:List Zf)(i:Int):Zf:=l.getD i.toNat Zc
abbrev gL(l:List Z6)(i:Int):Z6:=l.getD i.toNat Q1
abbrev gM(l:List Zo)(i:Int):Zo:=l.getD i.toNat Qs
abbrev gN(l:List Zj)(i:Int):Zj:=l.getD i.toNat Qc
abbrev gO(l:List Yk)(i:Int):Yk:=l.getD i.toNat KK
def Z0i(a:List Int):Oa Bool:=Y (K4 ((a:Int)>(1048576:Int)),())
def z5(a:List Int)(c b:Int):Nat:=(a-b).toNat+1
def yJ:Nat->List Int->Int->Int->Option ((Ku)×(Unit))|0,_,_,_=>Lb|N+1,b,c,a=>cond ((K4 (a<(b:Int)))&&(K4 (a<(4000:Int)))) (gG b a<|yJ N b (bits .and .i64 (K3.wrap ((K3.wrap ((K3.wrap (c*131))+(K3.wrap (b.getD a.toNat (0:Int)))))+7)) (1073741823:Int)) (K3.wrap (a+1))) (Y ((b,(0:Int),c,()),()))
def Zg4(a:List Int):Option ((Ku)×(Unit)):=
 let b:=K3.wrap (10101+(a:Int))
 yJ (z5 a b (0:Int)) a b (0:Int)
def rh(a:Ku):Option ((Int×Unit)×(Ku×Unit)):=
 let b:=K3.wrap ((K3.wrap (a.2.2.1*6364136223846793005))+1442695040888963407)
 Zh (0<=(33:Int))<|
 Zh (0<=(45:Int))<|
 let c:=bits .and .i64 (bits .xor .i64 (b.fdiv (2^ (min (33:Int).toNat K3.bits))) (b.fdiv (2^ (min (45:Int).toNat K3.bits)))) 255
 bif K4 (a.2.1<(a.1:Int))then
  gG a.1 a.2.1<|
  Y ((bits .and .i64 (K3.wrap (c+(K3.wrap (a.1.getD a.2.1.toNat 0)))) 255,()),(a.1,K3.wrap (a.2.1+1),b,a.2.2.2),())
 else
  Y ((c,()),(tO a b),())
def K6(b:Ku)(a:Int):Option ((Int×Unit)×(Ku×Unit)):=cond (K4 (a<=0)) (Y ((0,()),b,())) (cond (K4 (a<=256)) ((rh b).bind λc=>Zh (a≠0)<|some ((Lc c.1.1 a,()),c.2.1,())) ((rh b).bind λd=>(rh d.2.1).bind λe=>(rh e.2.1).bind λf=>(rh f.2.1).bind λg=>Zh (a≠0)<|some ((Lc (K3.wrap ((K3.wrap ((K3.wrap ((K3.wrap (d.1.1*16777216))+(K3.wrap (e.1.1*65536))))+(K3.wrap (f.1.1*256))))+g.1.1)) a,()),g.2.1,())))
def w8(b:Ku)(c:Int):Option ((Bool×Unit)×(Ku×Unit)):=(K6 b c).bind λa=>Y ((a.1.1==0,()),a.2.1,())
def KH:Oa ks:=Y ((16,8,32,16,64,2,2,4,()),())
def YB(c:Ku):Option ((ks×Unit)×(Ku×Unit)):=Le KH λa=>(K6 c 3).bind λb=>cond (b.1.1==0) (Y (((8,4,a.1.2.2.1,6,a.1.2.2.2.2.1,1,a.1.2.2.2.2.2.2),()),b.2.1,())) (cond (b.1.1==1) (Y (((a.1.1,a.1.2.1,a.1.2.2.1,a.1.2.2.2.1,a.1.2.2.2.2.1,3,1,2,a.1.2.2.2.2.2.2.2.2),()),b.2.1,())) (Y ((a.1,()),b.2.1,())))
def bp(a:Int):Oa Bool:=Y (((K4 (a>0))&&(K4 (a<=64)))&&((bits .and .i64 a (K3.wrap (a-1)))==0),())
def Z9(a b c:Int):Oa Bool:=Y ((K4 (a>=b))&&(K4 (a<=c)),())
def aO(a:ks):Oa Bool:=
 (bp a.1).bind λb=>
 (cond b.1 (Z9 a.2.2.1 1 4096) (Y (Z,()))).bind λd=>
 (cond (b.1&&d.1) (Z9 a.2.1 1 a.2.2.1) (Y (Z,()))).bind λf=>
 (cond ((b.1&&d.1)&&f.1) (Z9 a.2.2.2.2.1 1 4096) (Y (Z,()))).bind λi=>
 let c:=((b.1&&d.1)&&f.1)&&i.1
 (cond c (Z9 a.2.2.2.1 1 a.2.2.2.2.1) (Y (Z,()))).bind λe=>
 (cond (c&&e.1) (Z9 a.2.2.2.2.2.1 0 1000) (Y (Z,()))).bind λg=>
 (cond ((c&&e.1)&&g.1) (Z9 a.2.2.2.2.2.2.1 0 1000) (Y (Z,()))).bind λj=>
 let h:=((c&&e.1)&&g.1)&&j.1
 (cond h (Z9 a.2.2.2.2.2.2.2.1 1 1000) (Y (Z,()))).bind λk=>
 Y (h&&k.1,())
def Q9(a:Int):Oa Bool:=(Z9 a 0 4611686018427387903).bind λb=>Y (b.1,())
def aS(a:Int):Oc Qu Bool:=(Q9 a).bind λb=>cond (!b.1) (Y (Qcr,Z,())) (Y ((a,0,(-1:Int),(-1:Int),()),La,()))
def aT(a b:Int):Oc Ql Bool:=(Z9 b 1 4096).bind λc=>(cond (!c.1) (Y (Z,())) (Z9 a 1 b)).bind λd=>cond ((!c.1)||(!d.1)) (Y (Zln,Z,())) (Y ((a,b,a,qq),La,()))
def yF(a:Int):Oc dn Bool:=(Z9 a 0 1152921504606846976).bind λb=>cond (!b.1) (Y (qq,Z,())) (Y ((a,0,(-1:Int),()),La,()))
def yE(a:Int):Oc Qu Bool:=(Z9 a 0 1000).bind λb=>cond (!b.1) (Y (Qcr,Z,())) (Y ((a,a,0,0,()),La,()))
def Zaf(d:Bool)(a b:ks):Oc Ze Bool:=(aO a).bind λc=>(gH (!c.1) (aO b)).bind λe=>cond ((!c.1)||(!e.1)) (Y (X9,Z,())) ((aS b.2.2.2.1).bind λf=>(aT a.2.2.2.1 a.2.2.2.2.1).bind λg=>(yF b.2.2.2.2.2.1).bind λh=>(yF b.2.2.2.2.2.2.1).bind λi=>(yE a.2.2.2.2.2.1).bind λj=>(yE a.2.2.2.2.2.2.1).bind λk=>Y ((d,a,b,[],f.1,g.1,h.1,i.1,j.1,k.1,Z,Z,Z,(-1:Int),0,[],0,0,()),La,()))
def qh(c:Ku)(b:List Int):Option ((Int×Unit)×(Ku×Unit)):=(K6 c b).bind λa=>gG b a.1.1<|some ((b.getD a.1.1.toNat 0,()),a.2.1,())
def ri(c:Ku)(b:List Ba):Option ((Ba×Unit)×(Ku×Unit)):=(K6 c b).bind λa=>gG b a.1.1<|some ((b.getD a.1.1.toNat [],()),a.2.1,())
def oQ(b:Ku)(c:Ba)(a:Int):Nat:=(a-0).toNat+1
def iI:Nat->Ku->Ba->Int->Option ((Ba×Unit)×(Ku×Unit))|0,_,_,_=>Lb|N+1,c,a,d=>cond (K4 (d>(0:Int))) ((ri c ([([97]:Ba),([98]:Ba),([99]:Ba),([100]:Ba)])).bind λb=>Zh (a+b.1.1<=Jv)<|iI N b.2.1 (a++b.1.1) (K3.wrap (d-1))) (Y ((a,()),c,()))
def rl(b:Ku)(c:Int):Option ((Ba×Unit)×(Ku×Unit)):=(K6 b (K3.wrap (c+1))).bind λa=>iI (oQ a.2.1 ([]:Ba) a.1.1) a.2.1 ([]:Ba) a.1.1
def Jj(a:Bool):Oa Bool:=cond a (Y (La,())) (Y (Z,()))
def Wk(a:Zj):Oa Bool:=cond (a.1==4) (Jj (a.1==4)) (cond (a.1==5) (Jj (a.1==5)) (cond (a.1==8) (Jj (a.1==8)) (cond (a.1==17) (Jj (a.1==17)) (Jj (a.1==21)))))
def qo(b d a:Zj)(c:Bool):Oa Zj:=cond c (Y ((a.1,a.2.1,a.2.2.1,a.2.2.2.1,a.2.2.2.2.1,a.2.2.2.2.2.1,b.2.2.2.2.2.2.1,a.2.2.2.2.2.2.2.1,b.2.2.2.2.2.2.2.2.1,a.2.2.2.2.2.2.2.2.2),())) (Y ((tF a b.2.2.2.2.2.2.1),()))
def qn(b c a:Zj):Oa Zj:=cond (b.1==4) (Y ((a.1,a.2.1,a.2.2.1,a.2.2.2.1,a.2.2.2.2.1,b.2.2.2.2.2.1,a.2.2.2.2.2.2.1,b.2.2.2.2.2.2.2.1,a.2.2.2.2.2.2.2.2),())) (cond (b.1==5) (Y ((tR a b.2.2.2.2.2.1),())) (cond (b.1==8) (Y ((a.1,a.2.1,b.2.2.1,b.2.2.2.1,b.2.2.2.2.1,a.2.2.2.2.2),())) (cond (b.1==18) (qo b c a (b.1==18)) (qo b c a (b.1==22)))))
def nO(a:Zj):Oa Zj:=(Wk a).bind λb=>cond b.1 (qn a Qc (a.1,a.2.1,0,[],Z,0,0,0,Z,())) (qn a Qc (a.1,0,0,[],Z,0,0,0,Z,()))
def Zaj(j:Ku):Option ((Zj×Unit)×(Ku×Unit)):=(qh j ([4,5,8,8,8,8,16,17,18,20,21,22])).bind λa=>(K6 a.2.1 8).bind λb=>(K6 b.2.1 12).bind λc=>(rl c.2.1 6).bind λd=>(w8 d.2.1 4).bind λe=>(K6 e.2.1 5).bind λf=>(K6 f.2.1 40).bind λg=>(K6 g.2.1 14).bind λh=>(w8 h.2.1 2).bind λi=>Le (nO (a.1.1,b.1.1,c.1.1,d.1.1,e.1.1,f.1.1,g.1.1,h.1.1,i.1.1,())) λk=>Y ((k.1,()),i.2.1,())
def yC(a:Int):Oa Ba:=cond (a==4) (Y (([114,101,115,101,116]:Ba),())) (cond (a==5) (Y (([115,116,111,112]:Ba),())) (cond (a==8) (Y (([115,116,114,101,97,109]:Ba),())) (cond (a==16) (Y (([109,97,120,100,97,116,97]:Ba),())) (cond (a==17) (Y (([109,97,120,115,116,114,101,97,109,100,97,116,97]:Ba),())) (cond (a==18) (Y (([109,97,120,115,116,114,101,97,109,115]:Ba),())) (cond (a==20) (Y (([100,97,116,97,98,108,111,99,107,101,100]:Ba),())) (cond (a==21) (Y (([115,116,114,101,97,109,100,97,116,97,98,108,111,99,107,101,100]:Ba),())) (cond (a==22) (Y (([115,116,114,101,97,109,115,98,108,111,99,107,101,100]:Ba),())) (Y ([],()))))))))))
def zi(a:Zj)(b:Bool):Oa Bool:=cond b (Y (K4 (a.2.2.2.2.2.2.1<=1152921504606846976),())) (Y (La,()))
def bm(a:Zj):Oa Bool:=
 (yC a.1).bind λd=>
 (cond (d.1==[]) (Y (Qc,())) (nO a)).bind λh=>
 let b:=(d.1==[])||(!(eqV Zt h.1 a))
 (gH b (Q9 a.2.1)).bind λe=>
 (gH (b||(!e.1)) (Q9 a.2.2.1)).bind λi=>
 let c:=(b||(!e.1))||(!i.1)
 (gH c (Q9 a.2.2.2.2.2.1)).bind λf=>
 (gH (c||(!f.1)) (Q9 a.2.2.2.2.2.2.1)).bind λj=>
 let g:=(c||(!f.1))||(!j.1)
 (gH g (Q9 a.2.2.2.2.2.2.2.1)).bind λk=>
 bif(g||(!k.1))||(K4 ((a.2.2.2.1:Int)>(400:Int)))then
  Y (Z,())
 else
  bif a.1==8 then
   Y (K4 (a.2.2.1<=(K3.wrap (4611686018427387903- (a.2.2.2.1:Int)))),())
  else
   bif a.1==18 then
    zi a (a.1==18)
   else
    zi a (a.1==22)
def ky(a:Int):Oa Int:=cond ((K4 (a<0))||(K4 (a>4611686018427387903))) (Y (0,())) (cond (K4 (a<64)) (Y (1,())) (cond (K4 (a<16384)) (Y (2,())) (cond (K4 (a<1073741824)) (Y (4,())) (Y (8,())))))
def yB(c a:Int)(d:Ba)(b:Int):Nat:=(a-b).toNat+1
def Y9:Nat->Int->Int->Ba->Int->Oa Ba
 |0,_,_,_,_=>Lb
 |N+1,a,c,b,d=>
  bif K4 (d<c)then
   Zh ((256:Int)≠0)<|
   let e:Ba:=Xx ([(Ld.wrap (Lc a (256:Int)))])
   Zh (e+b<=Jv)<|
   Zh ((256:Int)≠0)<|
   Y9 N (K3.wrap (Lf a (256:Int))) c (e++b) (K3.wrap (d+1))
  else
   bif K4 (a>(0:Int))then
    Y (([]:Ba),())
   else
    Y (b,())
def p6(a b:Int):Oa Ba:=(Z9 b 1 7).bind λc=>cond ((!c.1)||(K4 (a<0))) (Y ([],())) (Y9 (yB a b ([]:Ba) (0:Int)) a b ([]:Ba) (0:Int))
def eJ(a:Int):Oa Ba:=(p6 (bits .and .i64 a 255) 1).bind λb=>Y (b.1,())
def Y5(K1:(Int×Int×Ba×Int×Unit)->Oa Ba)(c d:Int)(a:Ba)(e f:Int):Oa Ba:=(eJ f).bind λb=>Zh (a+b.1<=Jv)<|K1 (c,d,a++b.1,K3.wrap (e-1),())
def Vp(b c:Int)(d:Ba)(a:Int):Nat:=(a-0).toNat+2
def Qv:Nat->Int->Int->Ba->Int->Oa Ba
 |0,_,_,_,_=>Lb
 |N+1,c,a,d,b=>
  bif K4 (b>=(0:Int))then
   Zh (0<=(K3.wrap ((8:Int)*b)))<|
   let e:Int:=bits .and .i64 (c.fdiv (2^ (min (K3.wrap ((8:Int)*b)).toNat K3.bits))) (255:Int)
   bif b==(K3.wrap (a-1))then
    bif a==2 then
     Y5 (λv=>Qv N v.1 v.2.1 v.2.2.1 v.2.2.2.1) c a d b (bits .or .i64 e (64:Int))
    else
     bif a==4 then
      Y5 (λv=>Qv N v.1 v.2.1 v.2.2.1 v.2.2.2.1) c a d b (bits .or .i64 e (128:Int))
     else
      bif a==8 then
       Y5 (λv=>Qv N v.1 v.2.1 v.2.2.1 v.2.2.2.1) c a d b (bits .or .i64 e (192:Int))
      else
       Y5 (λv=>Qv N v.1 v.2.1 v.2.2.1 v.2.2.2.1) c a d b e
   else
    Y5 (λv=>Qv N v.1 v.2.1 v.2.2.1 v.2.2.2.1) c a d b e
  else
   Y (d,())
def Wr(b:Int):Oa Ba:=(ky b).bind λa=>Qv (Vp b a.1 ([]:Ba) (K3.wrap (a.1-1))) b a.1 ([]:Ba) (K3.wrap (a.1-1))
def gy(a:List Int)(c:Ba)(b:Int):Nat:=(a-b).toNat+1
def Vf:Nat->List Int->Ba->Int->Oa Ba|0,_,_,_=>Lb|N+1,b,c,a=>cond (K4 (a<(b:Int))) (gG b a<|(ky (b.getD a.toNat (0:Int))).bind λe=>cond (e.1==0) (Y (([]:Ba),())) (gG b a<|(Wr (b.getD a.toNat (0:Int))).bind λd=>Zh (c+d.1<=Jv)<|Vf N b (c++d.1) (K3.wrap (a+1)))) (Y (c,()))
def X5(a:List Int):Oa Ba:=Vf (gy a ([]:Ba) (0:Int)) a ([]:Ba) (0:Int)
def W8(a:Zj)(b:Int):Oa Ba:=cond (a.2.2.1==0) ((X5 ([b,a.2.1,a.2.2.2.1])).bind λc=>Zh (c.1+a.2.2.2.1<=Jv)<|some (c.1++a.2.2.2.1,())) ((X5 ([(K3.wrap (b+4)),a.2.1,a.2.2.1,a.2.2.2.1])).bind λd=>Zh (d.1+a.2.2.2.1<=Jv)<|some (d.1++a.2.2.2.1,()))
def W9(a:Zj)(b:Int):Oa Ba:=(X5 ([b,a.2.2.2.2.2.2.1])).bind λc=>Y (c.1,())
def Ka(a:Zj)(b:Bool):Oa Ba:=cond b ((X5 ([a.1,a.2.1,a.2.2.2.2.2.2.1])).bind λc=>Y (c.1,())) (cond a.2.2.2.2.2.2.2.2.1 (W9 a (K3.wrap (a.1+1))) (W9 a a.1))
def Xl(a:Zj)(b:Int)(c:Bool):Oa Ba:=cond c ((X5 ([a.1,a.2.2.2.2.2.2.1])).bind λd=>Y (d.1,())) (cond (b==17) (Ka a (b==17)) (Ka a (b==21)))
def Wx(a:Zj):Oa Ba:=(bm a).bind λb=>cond (!b.1) (Y ([],())) (cond (a.1==4) ((X5 ([4,a.2.1,a.2.2.2.2.2.1,a.2.2.2.2.2.2.2.1])).bind λc=>Y (c.1,())) (cond (a.1==5) ((X5 ([5,a.2.1,a.2.2.2.2.2.1])).bind λd=>Y (d.1,())) (cond (a.1==8) (cond a.2.2.2.2.1 (W8 a (K3.wrap (10+1))) (W8 a 10)) (cond (a.1==16) (Xl a a.1 (a.1==16)) (Xl a a.1 (a.1==20))))))
def nM(a:Int):Oa Int:=Zh (0<=a/\a<([48,49,50,51,52,53,54,55,56,57,97,98,99,100,101,102]:Ba))<|some (((([48,49,50,51,52,53,54,55,56,57,97,98,99,100,101,102]:Ba).getD a.toNat 0).toNat:Int),())
def rM(a:Ba)(c:List Int)(b:Int):Nat:=(a-b).toNat+1
def nH:Nat->Ba->List Int->Int->Oa Ba|0,_,_,_=>Lb|N+1,b,c,a=>cond (K4 (a<(b:Int))) (gG b a<|Zh ((16:Int)≠0)<|gG b a<|Zh ((16:Int)≠0)<|(nM (K3.wrap (Lf (K3.wrap ((b.getD a.toNat 0).toNat:Int)) (16:Int)))).bind λd=>(nM (Lc (K3.wrap ((b.getD a.toNat 0).toNat:Int)) (16:Int))).bind λe=>Zh (c+([d.1,e.1])<=Qp)<|nH N b (c++([d.1,e.1])) (K3.wrap (a+1))) (Y (Xx c,()))
def lO(a:Ba):Oa Ba:=nH (rM a ([]:List Int) (0:Int)) a ([]:List Int) (0:Int)
def tj(b d a:Yk)(c:Bool):Oa Yk:=cond c (Y ((a.1,b.2.1,b.2.2.1,a.2.2.2),())) (Y ((a.1,a.2.1,b.2.2.1,a.2.2.2),()))
def zr(b d a:Yk)(c:Int)(e:Bool):Oa Yk:=cond e (Y ((a.1,b.2.1,a.2.2.1,b.2.2.2.1,a.2.2.2.2),())) (cond (c==3) (Y ((a.1,b.2.1,a.2.2),())) (cond (c==4) (tj b d a (c==4)) (cond (c==5) (tj b d a (c==5)) (tj b d a (c==6)))))
def zq(c d a:Yk)(b:Int)(e:Bool):Oa Yk:=cond e (Y ((a.1,a.2.1,a.2.2.1,c.2.2.2.1,a.2.2.2.2),())) (cond (b==2) (zr c d a b (b==2)) (zr c d a b (b==7)))
def YF(a:Yk):Oa Yk:=cond (a.1==1) (zq a KK (a.1,0,0,[],()) a.1 (a.1==1)) (zq a KK (a.1,0,0,[],()) a.1 (a.1==11))
def Wz(a:Ku)(d b:Yk):Option ((Yk×Unit)×(Ku×Unit)):=(YF b).bind λc=>Y ((c.1,()),a,())
def ql(b:Ku)(c a:Yk)(e:Bool):Option ((Yk×Unit)×(Ku×Unit)):=cond e ((K6 b 5).bind λd=>Wz d.2.1 c (tO a d.1.1)) (Wz b c a)
def JE(i:Ku):Option ((Yk×Unit)×(Ku×Unit)):=(qh i ([1,2,2,2,3,4,4,5,6,7,8,8,8,9,9,10,11,11,12])).bind λa=>(K6 a.2.1 6).bind λc=>(K6 c.2.1 9).bind λb=>cond (a.1.1==1) ((ri b.2.1 ([([98,105,100,105]:Ba),([117,110,105]:Ba)])).bind λe=>Wz e.2.1 KK (a.1.1,c.1.1,b.1.1,e.1.1,())) (cond (a.1.1==2) ((rl b.2.1 7).bind λd=>Zh (([97]:Ba)+d.1.1<=Jv)<|Wz d.2.1 KK (a.1.1,c.1.1,b.1.1,([97]:Ba)++d.1.1,())) (cond (a.1.1==7) ((ri b.2.1 ([([117,61,49]:Ba),([105]:Ba),([117,61,53,44,32,105]:Ba),([120]:Ba)])).bind λf=>Wz f.2.1 KK (a.1.1,c.1.1,b.1.1,f.1.1,())) (cond (a.1.1==8) ((K6 b.2.1 30).bind λg=>Wz g.2.1 KK (a.1.1,c.1.1,K3.wrap (6+g.1.1),[],())) (cond (a.1.1==11) ((Zaj b.2.1).bind λh=>(Wx h.1.1).bind λj=>(lO j.1).bind λk=>Wz h.2.1 KK (a.1.1,c.1.1,b.1.1,k.1,())) (cond (a.1.1==9) (ql b.2.1 KK (a.1.1,c.1.1,b.1.1,[],()) (a.1.1==9)) (ql b.2.1 KK (a.1.1,c.1.1,b.1.1,[],()) (a.1.1==10)))))))
def oe(b c:Ze)(d:List Yk)(a:Int)(e:Ku):Nat:=(a-0).toNat+1
def j6:Nat->Ze->Ze->List Yk->Int->Ku->Oc Ze (List Yk)|0,_,_,_,_,_=>Lb|N+1,e,c,a,d,f=>cond (K4 (d>(0:Int))) ((JE f).bind λb=>Zh (a+([b.1.1])<=Qp)<|j6 N e c (a++([b.1.1])) (K3.wrap (d-1)) b.2.1) (Y (c,a,()))
def xI(f:List Int):Oc Ze (List Yk):=(Zg4 f).bind λg=>(w8 g.1 2).bind λb=>(YB b.2.1).bind λc=>(YB c.2.1).bind λd=>(Zaf b.1.1 c.1.1 d.1.1).bind λe=>(K6 d.2.1 18).bind λa=>j6 (oe X9 e.1 ([]:List Yk) (K3.wrap ((2:Int)+a.1.1)) a.2.1) X9 e.1 ([]:List Yk) (K3.wrap ((2:Int)+a.1.1)) a.2.1
def Z1(a b c:Int):Oa Bool:=Y ((K4 (b<=a))&&(K4 (a<=c)),())
def mD(a:Int):Oa Bool:=(Z1 a 1 64).bind λb=>Y (b.1&&((bits .and .i64 a (K3.wrap (a-1)))==0),())
def vu(a:ks):Oa Bool:=
 (mD a.1).bind λb=>
 (cond b.1 (Z1 a.2.2.1 1 4096) (Y (Z,()))).bind λd=>
 (cond (b.1&&d.1) (Z1 a.2.2.2.2.1 1 4096) (Y (Z,()))).bind λf=>
 (cond ((b.1&&d.1)&&f.1) (Z1 a.2.1 1 a.2.2.1) (Y (Z,()))).bind λi=>
 let c:=((b.1&&d.1)&&f.1)&&i.1
 (cond c (Z1 a.2.2.2.1 1 a.2.2.2.2.1) (Y (Z,()))).bind λe=>
 (cond (c&&e.1) (Z1 a.2.2.2.2.2.1 0 1000) (Y (Z,()))).bind λg=>
 (cond ((c&&e.1)&&g.1) (Z1 a.2.2.2.2.2.2.1 0 1000) (Y (Z,()))).bind λj=>
 let h:=((c&&e.1)&&g.1)&&j.1
 (cond h (Z1 a.2.2.2.2.2.2.2.1 1 1000) (Y (Z,()))).bind λk=>
 Y (h&&k.1,())
def Xq(a:Int):Oa Bool:=(Z1 a 0 4611686018427387903).bind λb=>Y (b.1,())
def Zd3(a:Int):Oa Bool:=(Z1 a 0 255).bind λb=>Y (!b.1,())
def Kc(c:List Int)(d:Unit)(a b:Int):Nat:=(a-b).toNat+1
def Ys:Nat->List Int->Unit->Int->Int->Oa Int|0,_,_,_,_=>Lb|N+1,b,e,c,a=>cond (K4 (a<c)) (Zh (0<=a/\a<b)<|(Zd3 (b.getD a.toNat (0:Int))).bind λd=>cond d.1 (Y (a,())) (Ys N b () c (K3.wrap (a+1)))) (Y ((-1:Int),()))
def aL(a:List Int):Oa Int:=Ys (Kc a () a (0:Int)) a () a (0:Int)
def Wq(a:List Int):Oa Bool:=(aL a).bind λb=>Y (K4 (b.1>=0),())
def q8(a:Q2):Oa Bool:=
 (mD a.1).bind λd=>
 let b:=(!d.1)||(a.2.2.2.1 !=a.1)
 (gH b (Wq a.2.2.2.1)).bind λe=>
 bif b||e.1 then
  Y (Z,())
 else
  (Xq a.2.1).bind λc=>
  (cond c.1 (Z1 a.2.2.1 a.2.1 (min (K3.wrap (a.2.1+a.1)) 4611686018427387903)) (Y (Z,()))).bind λf=>
  Y (c.1&&f.1,())
def QX(a:Zi):Oa Bool:=Y (((K4 (a.1>=0))&&(K4 (a.1<a.2.1)))&&(K4 (a.2.1<=4611686018427387903)),())
def uh(c d:List Zi)(a b:Int):Nat:=(a-b).toNat+1
def o0:Nat->List Zi->List Zi->Int->Int->Oa Bool|0,_,_,_,_=>Lb|N+1,c,b,d,a=>cond (K4 (a<d)) (Zh (0<=a/\a<b)<|(QX (b.getD a.toNat Z3)).bind λe=>Zh (((!e.1)=Z->((K4 (a>(0:Int)))=La->(0<=(K3.wrap (a-1))/\(K3.wrap (a-1))<c))))<|cond ((!e.1)||((K4 (a>(0:Int)))&&(K4 ((b.getD a.toNat Z3).1<=(c.getD (K3.wrap (a-1)).toNat Z3).2.1)))) (Y (Z,())) (o0 N c b d (K3.wrap (a+1)))) (Y (La,()))
def aU(a:List Zi):Oa Bool:=o0 (uh a a a (0:Int)) a a a (0:Int)
def mt(c:Int)(d:List Zi)(a b:Int):Nat:=(a-b).toNat+1
def im:Nat->Int->List Zi->Int->Int->Oa Int|0,_,_,_,_=>Lb|N+1,c,b,d,a=>cond (K4 (a<d)) (Zh (0<=a/\a<b)<|im N (K3.wrap (c+(K3.wrap ((b.getD a.toNat Z3).2.1- (b.getD a.toNat Z3).1)))) b d (K3.wrap (a+1))) (Y (c,()))
def dC(a:List Zi):Oa Int:=(aU a).bind λb=>cond (!b.1) (Y ((-1:Int),())) (im (mt (0:Int) a a (0:Int)) (0:Int) a a (0:Int))
def aV(a:List Zi):Oa (List Zi):=Zh (([]:List Zi)+a<=Qp)<|some ([]++a,())
def oU(K1:(Zi×List Zi×Bool×List Zi×Int×Int×Unit)->Oa (List Zi))(c:Zi)(a:List Zi)(d:Bool)(b:Zi)(e:List Zi)(f g:Int):Oa (List Zi):=Zh (a+([b])<=Qp)<|K1 (c,a++([b]),d,e,f,K3.wrap (g+1),())
def l6(c:Zi)(d:List Zi)(e:Bool)(f:List Zi)(a b:Int):Nat:=(a-b).toNat+1
def Js:Nat->Zi->List Zi->Bool->List Zi->Int->Int->Oa (List Zi)|0,_,_,_,_,_,_=>Lb|N+1,c,d,e,b,f,a=>cond (K4 (a<f)) (Zh (0<=a/\a<b)<|cond (K4 ((b.getD a.toNat Z3).2.1<c.1)) (Zh (d+([(b.getD a.toNat Z3)])<=Qp)<|Js N c (d++([(b.getD a.toNat Z3)])) e b f (K3.wrap (a+1))) (cond (K4 ((b.getD a.toNat Z3).1>c.2.1)) (cond (!e) (Zh (d+([c])<=Qp)<|oU (λv=>Js N v.1 v.2.1 v.2.2.1 v.2.2.2.1 v.2.2.2.2.1 v.2.2.2.2.2.1) c (d++([c])) La (b.getD a.toNat Z3) b f a) (oU (λv=>Js N v.1 v.2.1 v.2.2.1 v.2.2.2.1 v.2.2.2.2.1 v.2.2.2.2.2.1) c d e (b.getD a.toNat Z3) b f a)) (Js N (min c.1 (b.getD a.toNat Z3).1,max c.2.1 (b.getD a.toNat Z3).2.1,()) d e b f (K3.wrap (a+1))))) (cond (!e) (Zh (d+([c])<=Qp)<|some (d++([c]),())) (Y (d,())))
def dv(a:List Zi)(b:Zi):Oa (List Zi):=(aU a).bind λc=>(gH (!c.1) (QX b)).bind λd=>cond ((!c.1)||(!d.1)) ((aV a).bind λe=>Y (e.1,())) (Js (l6 b ([]:List Zi) Z a a (0:Int)) b ([]:List Zi) Z a a (0:Int))
def jj(a:List Zi)(c:Int):Oa Bool:=
 let b:=K3.wrap ((a:Int)-1)
 Zh (((K4 ((a:Int)>(0:Int)))=La->(0<=b/\b<a)))<|
 Y ((K4 ((a:Int)>(0:Int)))&&(K4 ((gI a b).2.1>c)),())
def ma(c:Int)(d e:List Zi)(a b:Int):Nat:=(a-b).toNat+1
def pg:Nat->Int->List Zi->List Zi->Int->Int->Oa Bool|0,_,_,_,_,_=>Lb|N+1,b,c,d,e,a=>cond (K4 (a<e)) (Zh (0<=a/\a<d)<|(dv c (d.getD a.toNat Z3)).bind λg=>pg N b g.1 d e (K3.wrap (a+1))) ((dC c).bind λf=>(cond (f.1==b) (jj c b) (Y (Z,()))).bind λh=>Y ((f.1==b)&&(!h.1),()))
def KX(d e a:List Zi)(c:Int):Oa Bool:=(dC d).bind λg=>(dC e).bind λh=>(dC a).bind λi=>cond ((K3.wrap ((K3.wrap (g.1+h.1))+i.1)) !=c) (Y (Z,())) ((aV d).bind λf=>(aV e).bind λb=>Zh (b.1+a<=Qp)<|pg (ma c f.1 (b.1++a) (b.1++a) (0:Int)) c f.1 (b.1++a) (b.1++a) (0:Int))
def ug(c:Int)(d:List Zi)(a b:Int):Nat:=(a-b).toNat+1
def kz:Nat->Int->List Zi->Int->Int->Oa Int|0,_,_,_,_=>Lb|N+1,c,b,d,a=>cond (K4 (a<d)) (Zh (0<=a/\a<b)<|cond ((K4 ((b.getD a.toNat Z3).1<=c))&&(K4 (c<(b.getD a.toNat Z3).2.1))) (kz N (b.getD a.toNat Z3).2.1 b d (K3.wrap (a+1))) (kz N c b d (K3.wrap (a+1)))) (Y (c,()))
def tn(a:List Zi)(b:Int):Oa Int:=(aU a).bind λc=>cond ((!c.1)||(K4 (b<0))) (Y ((-1:Int),())) (kz (ug b a a (0:Int)) b a a (0:Int))
def lE(a:Zk):Oa Int:=cond ((a.2.2.2.2.2.2.1==3)&&(a.2.1.2.1==a.2.1.2.2.1)) (Y (3,())) (cond (((a.2.2.2.2.2.2.1==2)||(a.2.2.2.2.2.2.1==3))||((a.2.2.2.2.2.2.1==1)&&(a.1==2))) (Y (2,())) (cond ((K4 (a.2.2.2.2.2.2.2.1>0))||((a.2.2.2.2.2.2.1==1)&&(a.1==1))) (Y (1,())) (Y (0,()))))
def o8(a:Zk)(f:Int):Oa Bool:=
 (KX a.2.2.1 a.2.2.2.1 a.2.2.2.2.1 a.2.1.2.2.1).bind λb=>
 (cond b.1 (tn a.2.2.2.2.1 0) (Y (0,()))).bind λc=>
 (cond (b.1&&(c.1==a.2.1.2.1)) (jj a.2.2.2.1 a.2.2.2.2.2.2.2.1) (Y (Z,()))).bind λg=>
 let d:=(b.1&&(c.1==a.2.1.2.1))&&(!g.1)
 (cond d (jj a.2.2.2.2.1 a.2.2.2.2.2.2.2.1) (Y (Z,()))).bind λh=>
 let e:=((d&&(!h.1))&&(a.2.2.2.2.2.2.2.2.1==0))&&(a.2.2.2.2.2.1==f)
 (cond e (lE a) (Y (0,()))).bind λi=>
 Y (e&&(a.1==i.1),())
def oa(a:Zk):Oa Bool:=
 (q8 a.2.1).bind λb=>
 (gH (!b.1) (aU a.2.2.1)).bind λe=>
 (gH ((!b.1)||(!e.1)) (aU a.2.2.2.1)).bind λh=>
 let c:=((!b.1)||(!e.1))||(!h.1)
 (gH c (aU a.2.2.2.2.1)).bind λf=>
 (gH (c||(!f.1)) (Z1 a.2.2.2.2.2.2.2.1 0 a.2.1.2.2.1)).bind λi=>
 let d:=(c||(!f.1))||(!i.1)
 (gH d (Xq a.2.2.2.2.2.2.2.2.1)).bind λg=>
 (gH (d||(!g.1)) (Z1 a.2.2.2.2.2.2.1 0 3)).bind λj=>
 bif(d||(!g.1))||(!j.1)then
  Y (Z,())
 else
  bif(a.1==4)||(a.1==5)then
   Y ((((((((a.2.2.1:Int)==(0:Int))&&((a.2.2.2.1:Int)==(0:Int)))&&((a.2.2.2.2.1:Int)==(0:Int)))&&(a.2.1.2.1==a.2.1.2.2.1))&&(a.2.2.2.2.2.1==a.2.2.2.2.2.2.2.1))&&(a.2.2.2.2.2.2.2.1==a.2.1.2.2.1))&&(a.2.2.2.2.2.2.1==0),())
  else
   bif a.2.2.2.2.2.2.1==0 then
    o8 a (-1:Int)
   else
    o8 a a.2.1.2.2.1
def dw(a:Qu):Oa Bool:=(Xq a.1).bind λb=>(cond b.1 (Z1 a.2.1 0 a.1) (Y (Z,()))).bind λc=>(cond (b.1&&c.1) (Z1 a.2.2.1 (-1:Int) a.1) (Y (Z,()))).bind λd=>(cond ((b.1&&c.1)&&d.1) (Z1 a.2.2.2.1 (-1:Int) a.1) (Y (Z,()))).bind λe=>Y (((b.1&&c.1)&&d.1)&&e.1,())
def ii(a:Qd):Oa Int:=Y (K3.wrap (a.1+(a.2.1:Int)),())
def l8(c:Int)(d:List Qd)(a b:Int):Nat:=(a-b).toNat+1
def oZ:Nat->Int->List Qd->Int->Int->Oa Bool|0,_,_,_,_=>Lb|N+1,d,b,c,a=>cond (K4 (a<c)) (Zh (0<=a/\a<b)<|cond (((((b.getD a.toNat Qt).2.1:Int)==(0:Int))||(K4 ((b.getD a.toNat Qt).1<d)))||(K4 ((b.getD a.toNat Qt).1>(K3.wrap ((4611686018427387903:Int)- ((b.getD a.toNat Qt).2.1:Int)))))) (Y (Z,())) ((ii (b.getD a.toNat Qt)).bind λe=>oZ N (K3.wrap (e.1+1)) b c (K3.wrap (a+1)))) (Y (La,()))
def nZ(a:Zv):Oa Bool:=(Xq a.1).bind λb=>cond (!b.1) (Y (Z,())) (oZ (l8 a.1 a.2.1 a.2.1 (0:Int)) a.1 a.2.1 a.2.1 (0:Int))
def Zge(a:Zv):Oa Int:=
 (nZ a).bind λc=>
 bif(!c.1)||((a.2.1:Int)==(0:Int))then
  Y (a.1,())
 else
  let b:=K3.wrap ((a.2.1:Int)-1)
  gG a.2.1 b<|
  (ii (gJ a.2.1 b)).bind λd=>
  Y (d.1,())
def mC(a:Zv):Oa Int:=
 (nZ a).bind λc=>
 let b:=(!c.1)||((a.2.1:Int)==(0:Int))
 Zh ((b=Z->(0<=(0:Int)/\(0:Int)<a.2.1)))<|
 bif b||((a.2.1.getD (0:Int).toNat Qt).1 !=a.1)then
  Y (0,())
 else
  Zh (0<=(0:Int)/\(0:Int)<a.2.1)<|
  Y ((a.2.1.getD (0:Int).toNat Qt).2.1,())
def yt(a:Zv):Oa Int:=(mC a).bind λb=>Y (K3.wrap (a.1+b.1),())
def cx(a:Zu)(b:Bool):Oa Bool:=cond b (Y ((a.2.2.1==a.2.2.2.1)&&((a.2.1.2.1:Int)==(0:Int)),())) (Y (Z,()))
def ca(a:Zu):Oa Bool:=
 (nZ a.2.1).bind λd=>
 (cond (!d.1) (Y (0,())) (Zge a.2.1)).bind λg=>
 let b:=(!d.1)||(K4 (g.1>a.2.2.2.1))
 (gH b (Xq a.2.2.2.1)).bind λe=>
 (gH (b||(!e.1)) (Xq a.2.2.2.2.1)).bind λh=>
 let f:=(b||(!e.1))||(!h.1)
 (cond (a.2.2.1 !=(-1:Int)) (gH f (Z1 a.2.2.1 a.2.2.2.1 4611686018427387903)) (Y (Z,()))).bind λi=>
 bif f||((a.2.2.1 !=(-1:Int))&&(!i.1))then
  Y (Z,())
 else
  (cond (a.2.2.1 !=(-1:Int)) (yt a.2.1) (Y (0,()))).bind λj=>
  let c:=(a.2.2.1 !=(-1:Int))&&(j.1==a.2.2.1)
  bif a.1==0 then
   Y ((a.2.2.1==(-1:Int))&&(a.2.2.2.2.1==0),())
  else
   bif a.1==1 then
    Y (((a.2.2.1 !=(-1:Int))&&(!c))&&(a.2.2.2.2.1==0),())
   else
    bif a.1==2 then
     Y (c&&(a.2.2.2.2.1==0),())
    else
     bif a.1==3 then
      Y ((c&&(a.2.2.2.2.1==0))&&((a.2.1.2.1:Int)==(0:Int)),())
     else
      bif a.1==4 then
       cx a (a.1==4)
      else
       cx a (a.1==5)
def kv(a:Ql):Oa Bool:=
 (Z1 a.2.1 1 4096).bind λb=>
 (cond b.1 (Z1 a.1 1 a.2.1) (Y (Z,()))).bind λc=>
 (cond (b.1&&c.1) (Z1 a.2.2.1 1 4611686018427387903) (Y (Z,()))).bind λd=>
 (cond ((b.1&&c.1)&&d.1) (Z1 a.2.2.2.1 0 a.2.2.1) (Y (Z,()))).bind λg=>
 let e:=((b.1&&c.1)&&d.1)&&g.1
 (cond e (Z1 a.2.2.2.2.1 0 a.2.2.2.1) (Y (Z,()))).bind λh=>
 let f:=(e&&h.1)&&(K4 (a.2.2.1<=(K3.wrap (a.2.2.2.2.1+a.1))))
 (cond f (Z1 a.2.2.2.2.2.1 0 1000000) (Y (Z,()))).bind λi=>
 Y (f&&i.1,())
def mz(a:Q7):Oa Bool:=(Z1 a.1 0 7).bind λb=>Y (b.1,())
def yn(a:Zf):Oa Bool:=
 (Xq a.1).bind λb=>
 (gH (!b.1) (Xq a.2.2.2.2.2.2.2.2.2.2.2.2.1)).bind λe=>
 (gH ((!b.1)||(!e.1)) (oa a.2.1)).bind λh=>
 let c:=((!b.1)||(!e.1))||(!h.1)
 (gH c (dw a.2.2.1)).bind λf=>
 (gH (c||(!f.1)) (ca a.2.2.2.1)).bind λi=>
 let d:=(c||(!f.1))||(!i.1)
 (gH d (kv a.2.2.2.2.1)).bind λg=>
 (gH (d||(!g.1)) (mz a.2.2.2.2.2.1)).bind λj=>
 bif(d||(!g.1))||(!j.1)then
  Y (Z,())
 else
  bif(((!a.2.2.2.2.2.2.1)&&(!a.2.2.2.2.2.2.2.1))||(K4 (a.2.1.2.2.2.2.2.2.2.1>a.2.2.1.2.1)))||(K4 (a.2.2.2.1.2.2.2.1>a.2.2.2.2.1.2.2.2.1))then
   Y (Z,())
  else
   bif((a.2.2.2.2.2.2.2.2.1&&(a.2.1.1 !=4))||(a.2.2.2.2.2.2.2.2.2.1&&(!a.2.2.2.2.2.2.2.2.2.2.2.1)))||((a.2.2.2.2.2.2.2.2.2.2.2.2.1 !=0)&&(!a.2.2.2.2.2.2.2.2.2.2.2.1))then
    Y (Z,())
   else
    bif(!a.2.2.2.2.2.2.1)&&(((a.2.1.1 !=0)||(a.2.1.2.1.2.2.1 !=0))||(a.2.1.2.2.2.2.2.1 !=(-1:Int)))then
     Y (Z,())
    else
     Y (a.2.2.2.2.2.2.2.1||(((a.2.2.2.1.1==0)&&(a.2.2.2.1.2.2.2.1==0))&&(!a.2.2.2.2.2.2.2.2.2.2.2.1)),())
def iL(c d:List Zf)(a b:Int):Nat:=(a-b).toNat+1
def cq:Nat->List Zf->List Zf->Int->Int->Oa Bool
 |0,_,_,_,_=>Lb
 |N+1,c,b,d,a=>
  bif K4 (a<d)then
   Zh (0<=a/\a<b)<|
   (cond (K4 (a>=(24:Int))) (Y (Z,())) (yn (b.getD a.toNat Zc))).bind λf=>
   let e:Bool:=(K4 (a>=(24:Int)))||(!f.1)
   Zh ((e=Z->((K4 (a>(0:Int)))=La->(0<=(K3.wrap (a-1))/\(K3.wrap (a-1))<c))))<|
   bif e||((K4 (a>(0:Int)))&&(K4 ((c.getD (K3.wrap (a-1)).toNat Zc).1>=(b.getD a.toNat Zc).1)))then
    Y (Z,())
   else
    cq N c b d (K3.wrap (a+1))
  else
   Y (La,())
def jh(a:List Zf):Oa Bool:=cq (iL a a a (0:Int)) a a a (0:Int)
def xk(a:dn):Oa Bool:=(Z1 a.1 0 1152921504606846976).bind λb=>(cond b.1 (Z1 a.2.1 0 a.1) (Y (Z,()))).bind λc=>(cond (b.1&&c.1) (Z1 a.2.2.1 (-1:Int) a.1) (Y (Z,()))).bind λd=>Y ((b.1&&c.1)&&d.1,())
def rA(a:Qu):Oa Bool:=(Z1 a.1 0 1000).bind λb=>(cond b.1 (Z1 a.2.1 a.1 1152921504606846976) (Y (Z,()))).bind λc=>(cond (b.1&&c.1) (Z1 a.2.2.1 0 a.2.1) (Y (Z,()))).bind λd=>(cond ((b.1&&c.1)&&d.1) (Z1 a.2.2.2.1 0 a.2.2.1) (Y (Z,()))).bind λe=>Y ((((b.1&&c.1)&&d.1)&&e.1)&&(K4 (a.2.1<=(K3.wrap (a.2.2.2.1+a.1)))),())
def Zd4(a:Int):Oa Ba:=cond (a==4) (Y (([114,101,115,101,116]:Ba),())) (cond (a==5) (Y (([115,116,111,112]:Ba),())) (cond (a==8) (Y (([115,116,114,101,97,109]:Ba),())) (cond (a==16) (Y (([109,97,120,100,97,116,97]:Ba),())) (cond (a==17) (Y (([109,97,120,115,116,114,101,97,109,100,97,116,97]:Ba),())) (cond (a==18) (Y (([109,97,120,115,116,114,101,97,109,115]:Ba),())) (cond (a==20) (Y (([100,97,116,97,98,108,111,99,107,101,100]:Ba),())) (cond (a==21) (Y (([115,116,114,101,97,109,100,97,116,97,98,108,111,99,107,101,100]:Ba),())) (cond (a==22) (Y (([115,116,114,101,97,109,115,98,108,111,99,107,101,100]:Ba),())) (Y ([],()))))))))))
def af(a:Bool):Oa Bool:=cond a (Y (La,())) (Y (Z,()))
def Wa(a:Zj):Oa Bool:=cond (a.1==4) (af (a.1==4)) (cond (a.1==5) (af (a.1==5)) (cond (a.1==8) (af (a.1==8)) (cond (a.1==17) (af (a.1==17)) (af (a.1==21)))))
def Zgh(b d a:Zj)(c:Bool):Oa Zj:=cond c (Y ((a.1,a.2.1,a.2.2.1,a.2.2.2.1,a.2.2.2.2.1,a.2.2.2.2.2.1,b.2.2.2.2.2.2.1,a.2.2.2.2.2.2.2.1,b.2.2.2.2.2.2.2.2.1,a.2.2.2.2.2.2.2.2.2),())) (Y ((tF a b.2.2.2.2.2.2.1),()))
def Zgg(b c a:Zj):Oa Zj:=cond (b.1==4) (Y ((a.1,a.2.1,a.2.2.1,a.2.2.2.1,a.2.2.2.2.1,b.2.2.2.2.2.1,a.2.2.2.2.2.2.1,b.2.2.2.2.2.2.2.1,a.2.2.2.2.2.2.2.2),())) (cond (b.1==5) (Y ((tR a b.2.2.2.2.2.1),())) (cond (b.1==8) (Y ((a.1,a.2.1,b.2.2.1,b.2.2.2.1,b.2.2.2.2.1,a.2.2.2.2.2),())) (cond (b.1==18) (Zgh b c a (b.1==18)) (Zgh b c a (b.1==22)))))
def Zth(a:Zj):Oa Zj:=(Wa a).bind λb=>cond b.1 (Zgg a Qc (a.1,a.2.1,0,[],Z,0,0,0,Z,())) (Zgg a Qc (a.1,0,0,[],Z,0,0,0,Z,()))
def ao(a:Zj):Oa Bool:=
 (Zd4 a.1).bind λd=>
 (cond (d.1==[]) (Y (Qc,())) (Zth a)).bind λh=>
 let b:=(d.1==[])||(!(eqV Zt a h.1))
 (gH b (Xq a.2.1)).bind λe=>
 (gH (b||(!e.1)) (Xq a.2.2.1)).bind λi=>
 let c:=(b||(!e.1))||(!i.1)
 (gH c (Xq a.2.2.2.2.2.1)).bind λf=>
 (gH (c||(!f.1)) (Xq a.2.2.2.2.2.2.1)).bind λj=>
 let g:=(c||(!f.1))||(!j.1)
 (gH g (Xq a.2.2.2.2.2.2.2.1)).bind λk=>
 bif g||(!k.1)then
  Y (Z,())
 else
  bif(a.1==18)||(a.1==22)then
   Y (K4 (a.2.2.2.2.2.2.1<=1152921504606846976),())
  else
   Y ((K4 ((a.2.2.2.1:Int)<=(400:Int)))&&(K4 (a.2.2.1<=(K3.wrap (4611686018427387903- (a.2.2.2.1:Int))))),())
def QV(a:Zj):Oa Bool:=(ao a).bind λb=>Y (!b.1,())
def Yg(c:List Zj)(d:Unit)(a b:Int):Nat:=(a-b).toNat+1
def Q6:Nat->List Zj->Unit->Int->Int->Oa Int|0,_,_,_,_=>Lb|N+1,b,e,c,a=>cond (K4 (a<c)) (Zh (0<=a/\a<b)<|(QV (b.getD a.toNat Qc)).bind λd=>cond d.1 (Y (a,())) (Q6 N b () c (K3.wrap (a+1)))) (Y ((-1:Int),()))
def Kg(a:List Zj):Oa Int:=Q6 (Yg a () a (0:Int)) a () a (0:Int)
def Xo(a:List Zj):Oa Bool:=(Kg a).bind λb=>Y (K4 (b.1>=0),())
def pf(c:List Z6)(d:Int)(e:List Z6)(a b:Int):Nat:=(a-b).toNat+1
def lC:Nat->List Z6->Int->List Z6->Int->Int->Oa Bool
 |0,_,_,_,_,_=>Lb
 |N+1,c,d,b,e,a=>
  bif K4 (a<e)then
   Zh (0<=a/\a<b)<|
   (Z1 (b.getD a.toNat Q1).1 (0:Int) (K3.wrap (d-1))).bind λf=>
   Zh (((!f.1)=Z->((K4 (a>(0:Int)))=La->(0<=(K3.wrap (a-1))/\(K3.wrap (a-1))<c))))<|
   let g:Bool:=(!f.1)||((K4 (a>(0:Int)))&&(K4 ((c.getD (K3.wrap (a-1)).toNat Q1).1>=(b.getD a.toNat Q1).1)))
   (cond g (Y (Z,())) (Xo (b.getD a.toNat Q1).2.1)).bind λh=>
   bif g||h.1 then
    Y (Z,())
   else
    lC N c d b e (K3.wrap (a+1))
  else
   Y (La,())
def VM(a:List Z6)(b:Int):Oa Bool:=lC (pf a b a a (0:Int)) a b a a (0:Int)
def Zew(a:Zf):Oa Int:=Y (a.2.1.2.2.2.2.2.2.2.1,())
def bW(c:Unit)(d:Int)(e:List Zf)(a b:Int):Nat:=(a-b).toNat+1
def Vn:Nat->Unit->Int->List Zf->Int->Int->Oa Int|0,_,_,_,_,_=>Lb|N+1,f,c,b,d,a=>cond (K4 (a<d)) (Zh (0<=a/\a<b)<|(Zew (b.getD a.toNat Zc)).bind λe=>Vn N () (min (K3.wrap (c+e.1)) (4611686018427387904:Int)) b d (K3.wrap (a+1))) (Y (c,()))
def kl(a:List Zf):Oa Int:=(jh a).bind λb=>cond (!b.1) (Y (0,())) (Vn (bW () (0:Int) a a (0:Int)) () (0:Int) a a (0:Int))
def pd(a:List Zf):Oa Int:=(kl a).bind λb=>Y (b.1,())
def Zev(a:Zf):Oa Int:=Y (a.2.2.2.1.2.2.2.1,())
def bV(c:Unit)(d:Int)(e:List Zf)(a b:Int):Nat:=(a-b).toNat+1
def Vm:Nat->Unit->Int->List Zf->Int->Int->Oa Int|0,_,_,_,_,_=>Lb|N+1,f,c,b,d,a=>cond (K4 (a<d)) (Zh (0<=a/\a<b)<|(Zev (b.getD a.toNat Zc)).bind λe=>Vm N () (min (K3.wrap (c+e.1)) (4611686018427387904:Int)) b d (K3.wrap (a+1))) (Y (c,()))
def kj(a:List Zf):Oa Int:=(jh a).bind λb=>cond (!b.1) (Y (0,())) (Vm (bV () (0:Int) a a (0:Int)) () (0:Int) a a (0:Int))
def pb(a:List Zf):Oa Int:=(kj a).bind λb=>Y (b.1,())
def K7(a:Ze):Oa Bool:=
 (vu a.2.1).bind λb=>
 (gH (!b.1) (vu a.2.2.1)).bind λg=>
 (gH ((!b.1)||(!g.1)) (jh a.2.2.2.1)).bind λn=>
 let c:=((!b.1)||(!g.1))||(!n.1)
 (gH c (dw a.2.2.2.2.1)).bind λh=>
 (gH (c||(!h.1)) (kv a.2.2.2.2.2.1)).bind λo=>
 bif(c||(!h.1))||(!o.1)then
  Y (Z,())
 else
  (xk a.2.2.2.2.2.2.1).bind λd=>
  (gH (!d.1) (xk a.2.2.2.2.2.2.2.1)).bind λi=>
  (gH ((!d.1)||(!i.1)) (rA a.2.2.2.2.2.2.2.2.1)).bind λp=>
  let j:=((!d.1)||(!i.1))||(!p.1)
  (gH j (rA a.2.2.2.2.2.2.2.2.2.1)).bind λq=>
  bif j||(!q.1)then
   Y (Z,())
  else
   (Z1 a.2.2.2.2.2.2.2.2.2.2.2.2.2.1 (-1:Int) 4611686018427387903).bind λe=>
   (gH (!e.1) (Z1 a.2.2.2.2.2.2.2.2.2.2.2.2.2.2.1 0 1000000)).bind λk=>
   (gH ((!e.1)||(!k.1)) (Z1 a.2.2.2.2.2.2.2.2.2.2.2.2.2.2.2.2.1 0 1000000)).bind λr=>
   let l:=((!e.1)||(!k.1))||(!r.1)
   (gH l (Z1 a.2.2.2.2.2.2.2.2.2.2.2.2.2.2.2.2.2.1 0 255)).bind λs=>
   bif l||(!s.1)then
    Y (Z,())
   else
    (VM a.2.2.2.2.2.2.2.2.2.2.2.2.2.2.2.1 a.2.2.2.2.2.2.2.2.2.2.2.2.2.2.1).bind λf=>
    (cond f.1 (pd a.2.2.2.1) (Y (0,()))).bind λm=>
    (cond (f.1&&(K4 (m.1<=a.2.2.2.2.1.2.1))) (pb a.2.2.2.1) (Y (0,()))).bind λt=>
    Y ((f.1&&(K4 (m.1<=a.2.2.2.2.1.2.1)))&&(K4 (t.1<=a.2.2.2.2.2.1.2.2.2.1)),())
def xu(a:Bool):Od Bool Bool Bool:=cond a (Y (La,La,Z,())) (Y (Z,La,Z,()))
def XD(a:Int)(b:Bool):Od Bool Bool Bool:=cond b (Y (La,Z,La,())) (cond (a==3) (Y (La,Z,Z,())) (cond (a==4) (xu (a==4)) (cond (a==5) (xu (a==5)) (xu (a==6)))))
def XC(a:Int)(b:Bool):Od Bool Bool Bool:=cond b (Y (Z,Z,La,())) (cond (a==2) (XD a (a==2)) (XD a (a==7)))
def Zex(a:Int):Od Bool Bool Bool:=cond (a==1) (XC a (a==1)) (XC a (a==11))
def VZ:List Ba:=[[],[111,112,101,110],[119,114,105,116,101],[102,105,110,105,115,104],[114,101,97,100],[114,101,115,101,116],[115,116,111,112],[112,114,105,111,114,105,116,121],[101,109,105,116],[97,99,107],[108,111,115,101],[112,97,121,108,111,97,100],[116,105,109,101]]
def lx(k:Int):Oa Ba:=Y (cond (K4 (1<=k)&&K4 (k<=12)) (VZ.getD k.toNat []) [],())
def uk(a:Ba)(c d b:Int):Nat:=(a-b).toNat+1
def fM:Nat->Ba->Int->Int->Int->Oa Bool
 |0,_,_,_,_=>Lb
 |N+1,b,c,d,a=>
  bif K4 (a<(b:Int))then
   Zh (0<=a/\a<b)<|
   let e:Bool:=K4 (((b.getD a.toNat 0).toNat:Int)<c)
   Zh ((e=Z->(0<=a/\a<b)))<|
   bif e||(K4 (((b.getD a.toNat 0).toNat:Int)>d))then
    Y (Z,())
   else
    fM N b c d (K3.wrap (a+1))
  else
   (Z1 b (1:Int) (40:Int)).bind λf=>
   Y (f.1,())
def yq(a:Ba)(b c:Int):Oa Bool:=fM (uk a b c (0:Int)) a b c (0:Int)
def gn(a:Int):Oa Int:=cond ((K4 (48<=a))&&(K4 (a<=57))) (Y (K3.wrap (Ld.wrap (a-48)),())) (cond ((K4 (97<=a))&&(K4 (a<=102))) (Y (K3.wrap ((K3.wrap (Ld.wrap (a-97)))+10),())) (Y ((-1:Int),())))
def ru(a:Ba)(c:List Int)(b:Int):Nat:=(a-b).toNat+1
def bF:Nat->Ba->List Int->Int->Oc Ba Bool
 |0,_,_,_=>Lb
 |N+1,b,c,a=>
  bif K4 (a<(b:Int))then
   Zh (0<=a/\a<b)<|
   Zh (0<=(K3.wrap (a+1))/\(K3.wrap (a+1))<b)<|
   (gn ((b.getD a.toNat 0).toNat:Int)).bind λd=>
   (gn ((b.getD (K3.wrap (a+1)).toNat 0).toNat:Int)).bind λe=>
   bif(K4 (d.1<(0:Int)))||(K4 (e.1<(0:Int)))then
    Y (([]:Ba),Z,())
   else
    let f:List Int:=[(Ld.wrap (K3.wrap ((K3.wrap ((16:Int)*d.1))+e.1)))]
    Zh (c+f<=Qp)<|
    bF N b (c++f) (K3.wrap (a+2))
  else
   Y (Xx c,La,())
def lu(a:Ba):Oc Ba Bool:=Zh ((2:Int)≠0)<|cond ((Lc a (2:Int)) !=0) (Y ([],Z,())) (bF (ru a ([]:List Int) (0:Int)) a ([]:List Int) (0:Int))
def Zjg(a:Yk):Oa Bool:=cond (a.1==1) (Y ((a.2.2.2.1==([98,105,100,105]:Ba))||(a.2.2.2.1==([117,110,105]:Ba)),())) (cond (a.1==2) ((yq a.2.2.2.1 97 122).bind λc=>Y (c.1,())) (cond (a.1==7) ((yq a.2.2.2.1 32 126).bind λd=>Y (d.1,())) (cond (a.1==11) ((lu a.2.2.2.1).bind λb=>(cond b.2.1 (Z1 b.1 1 400) (Y (Z,()))).bind λe=>Y (b.2.1&&e.1,())) (Y (a.2.2.2.1==[],())))))
def QJ(a:Yk):Oa Bool:=
 (Zex a.1).bind λb=>
 (lx a.1).bind λc=>
 (cond (!(c.1==[])) (Z1 a.2.1 0 999999) (Y (Z,()))).bind λf=>
 let d:=(!(c.1==[]))&&f.1
 (cond d (Z1 a.2.2.1 0 999999) (Y (Z,()))).bind λg=>
 let e:=((d&&g.1)&&(b.1||(a.2.1==0)))&&(b.2.1||(a.2.2.1==0))
 (cond e (Zjg a) (Y (Z,()))).bind λh=>
 Y (e&&h.1,())
def kw(a:Q2):Oa Q2:=Zh (([]:List Int)+a.2.2.2.1<=Qp)<|some ((a.1,a.2.1,a.2.2.1,[]++a.2.2.2.1,a.2.2.2.2),())
def Wo(a:Zk):Oa Zk:=(kw a.2.1).bind λb=>(aV a.2.2.1).bind λc=>(aV a.2.2.2.1).bind λd=>(aV a.2.2.2.2.1).bind λe=>Y ((a.1,b.1,c.1,d.1,e.1,a.2.2.2.2.2),())
def ej(a:Zv):Oa Zv:=Zh (([]:List Qd)+a.2.1<=Qp)<|some ((a.1,[]++a.2.1,()),())
def bG(a:Zu):Oa Zu:=(ej a.2.1).bind λb=>Y ((a.1,b.1,a.2.2),())
def eu(a:Zf):Oa Zf:=(Wo a.2.1).bind λb=>(bG a.2.2.2.1).bind λc=>Y ((a.1,b.1,a.2.2.1,c.1,a.2.2.2.2),())
def Wv(c d:List Zf)(a b:Int):Nat:=(a-b).toNat+1
def jw:Nat->List Zf->List Zf->Int->Int->Oa (List Zf)|0,_,_,_,_=>Lb|N+1,b,c,d,a=>cond (K4 (a<d)) (gG c a<|(eu (gK c a)).bind λe=>Zh (b+([e.1])<=Qp)<|jw N (b++([e.1])) c d (K3.wrap (a+1))) (Y (b,()))
def cP(a:List Zf):Oa (List Zf):=jw (Wv ([]:List Zf) a a (0:Int)) ([]:List Zf) a a (0:Int)
def gj(c d:List Z6)(a b:Int):Nat:=(a-b).toNat+1
def jv:Nat->List Z6->List Z6->Int->Int->Oa (List Z6)
 |0,_,_,_,_=>Lb
 |N+1,c,b,d,a=>
  bif K4 (a<d)then
   gG b a<|
   Zh (([]:List Zj)+(gL b a).2.1<=Qp)<|
   let e:List Z6:=[((gL b a).1,([]:List Zj)++(gL b a).2.1,())]
   Zh (c+e<=Qp)<|
   jv N (c++e) b d (K3.wrap (a+1))
  else
   Y (c,())
def YW(a:List Z6):Oa (List Z6):=jv (gj ([]:List Z6) a a (0:Int)) ([]:List Z6) a a (0:Int)
def Zw(a:Ze):Oa Ze:=(cP a.2.2.2.1).bind λb=>(YW a.2.2.2.2.2.2.2.2.2.2.2.2.2.2.2.1).bind λc=>Y ((a.1,a.2.1,a.2.2.1,b.1,a.2.2.2.2.1,a.2.2.2.2.2.1,a.2.2.2.2.2.2.1,a.2.2.2.2.2.2.2.1,a.2.2.2.2.2.2.2.2.1,a.2.2.2.2.2.2.2.2.2.1,a.2.2.2.2.2.2.2.2.2.2.1,a.2.2.2.2.2.2.2.2.2.2.2.1,a.2.2.2.2.2.2.2.2.2.2.2.2.1,a.2.2.2.2.2.2.2.2.2.2.2.2.2.1,a.2.2.2.2.2.2.2.2.2.2.2.2.2.2.1,c.1,a.2.2.2.2.2.2.2.2.2.2.2.2.2.2.2.2),())
def ku(a:Ze):Oa Bool:=Y (a.2.2.2.2.2.2.2.2.2.2.2.2.2.2.2.2.2.1 !=0,())
def Jl(a:Ze):Oa Bool:=(K7 a).bind λb=>(cond b.1 (ku a) (Y (Z,()))).bind λc=>Y (b.1&&(!c.1),())
def Jc(a:Ze)(b:Bool):Option ((Bool)×(Ze×Unit)):=cond b (Y (La,a,())) (Y (Z,a,()))
def yp(a:dn):Od Int dn Bool:=(xk a).bind λb=>cond (!b.1) (Y ((-1:Int),a,Z,())) (cond (a.2.1==a.1) (Y ((-1:Int),(a.1,a.2.1,a.1,a.2.2.2),Z,())) (Y (K3.wrap ((K3.wrap (a.2.1+1))-1),(a.1,K3.wrap (a.2.1+1),a.2.2),La,())))
def jx(a:Bool):Oa Int:=cond a (Y (1,())) (Y (0,()))
def Zcu(a:Int)(b c:Bool):Oa Int:=(Z1 a 0 1152921504606846975).bind λd=>cond (!d.1) (Y ((-1:Int),())) ((jx b).bind λe=>(jx c).bind λf=>Y (K3.wrap ((K3.wrap ((K3.wrap (4*a))+e.1))+(K3.wrap (2*f.1))),()))
def cd(a:Int):Oa Bool:=(Xq a).bind λb=>Y (b.1,())
def Zet:Oa Zu:=Y ((0,(0,[],()),(-1:Int),0,0,()),())
def vp:Oa Q7:=Y ((3,Z,()),())
def m7(a:Int):Oa Bool:=(cd a).bind λb=>Y (b.1&&((bits .and .i64 a 2)==2),())
def Zhk(a:Int):Oa Bool:=(cd a).bind λb=>Y (b.1&&((bits .and .i64 a 1)==1),())
def Vl(c:Bool)(a:Int):Oa Bool:=(cd a).bind λb=>(cond b.1 (Zhk a) (Y (Z,()))).bind λd=>Y (b.1&&(d.1==c),())
def vl(d:Bool)(a:Int):Oa Bool:=(cd a).bind λb=>(cond b.1 (m7 a) (Y (Z,()))).bind λc=>(gH (!c.1) (cond b.1 (Vl d a) (Y (Z,())))).bind λe=>Y (b.1&&((!c.1)||e.1),())
def iM(d:Bool)(a:Int):Oa Bool:=(cd a).bind λb=>(cond b.1 (m7 a) (Y (Z,()))).bind λc=>(gH (!c.1) (cond b.1 (Vl d a) (Y (Z,())))).bind λe=>Y (b.1&&((!c.1)||(!e.1)),())
def Zqj(a:Int):Oc Q2 Bool:=(mD a).bind λb=>cond (!b.1) (Y (Zfw,Z,())) (Zh (0<=a/\a<=a/\a<=Qp)<|some ((a,0,0,Lg a.toNat 0,()),La,()))
def Za0(b:Int):Oc Zk Bool:=(Zqj b).bind λa=>cond (!a.2.1) (Y (Yw,Z,())) (Y ((0,a.1,[],[],[],(-1:Int),qq),La,()))
def Zje(a:Int):Oc Qu Bool:=(Xq a).bind λb=>cond (!b.1) (Y (Qcr,Z,())) (Y ((a,0,(-1:Int),(-1:Int),()),La,()))
def Zjf(a b:Int):Oc Ql Bool:=(Z1 b 1 4096).bind λc=>(gH (!c.1) (Z1 a 1 b)).bind λd=>cond ((!c.1)||(!d.1)) (Y (Zln,Z,())) (Y ((a,b,a,qq),La,()))
def vx(d:Bool)(a:Int)(b e:ks):Oc Zf Bool:=(cd a).bind λc=>(gH (!c.1) (vu b)).bind λf=>(gH ((!c.1)||(!f.1)) (vu e)).bind λg=>cond (((!c.1)||(!f.1))||(!g.1)) (Y (Zc,Z,())) (Le Zet λh=>Le vp λi=>(vl d a).bind λj=>(iM d a).bind λk=>(Za0 b.1).bind λl=>(Zje e.2.1).bind λm=>(Zjf b.2.1 b.2.2.1).bind λn=>Y ((a,l.1,m.1,h.1,n.1,i.1,j.1,k.1,Z,Z,Z,Z,0,Z,()),La,()))
def Zct(a:Zf)(b:Int):Oa Bool:=Y (a.1==b,())
def Yc(c:List Zf)(d:Int×Unit)(a b:Int):Nat:=(a-b).toNat+1
def Qz:Nat->List Zf->(Int×Unit)->Int->Int->Oa Int|0,_,_,_,_=>Lb|N+1,b,c,d,a=>cond (K4 (a<d)) (Zh (0<=a/\a<b)<|(Zct (b.getD a.toNat Zc) c.1).bind λe=>cond e.1 (Y (a,())) (Qz N b c d (K3.wrap (a+1)))) (Y ((-1:Int),()))
def Y4(a:List Zf)(b:Int×Unit):Oa Int:=Qz (Yc a b a (0:Int)) a b a (0:Int)
def Z4(a:List Zf)(b:Int):Oa Int:=(Y4 a (b,())).bind λc=>Y (c.1,())
def Zeu(a b:Zf):Oa Bool:=Y (K4 (a.1>b.1),())
def Yd(c:List Zf)(d:Zf×Unit)(a b:Int):Nat:=(a-b).toNat+1
def Q4:Nat->List Zf->(Zf×Unit)->Int->Int->Oa Int|0,_,_,_,_=>Lb|N+1,b,c,d,a=>cond (K4 (a<d)) (gG b a<|(Zeu (gK b a) c.1).bind λe=>cond e.1 (Y (a,())) (Q4 N b c d (K3.wrap (a+1)))) (Y ((-1:Int),()))
def Xs(a:List Zf)(b:Zf×Unit):Oa Int:=Q4 (Yd a b a (0:Int)) a b a (0:Int)
def Znj(l:List Zf)(i:Int)(v:List Zf):Oa ((List Zf)×Unit):=Qi0 l i v
def m9(a:Zf)(b:List Zf)(c:Int):Oa (List Zf):=(eu a).bind λd=>(Znj b c ([d.1])).bind λe=>Y (e.1.1,())
def lB(b:List Zf)(a:Zf):Oa (List Zf):=(cP b).bind λc=>(Z4 b a.1).bind λd=>cond (K4 (d.1>=0)) ((eu a).bind λf=>gG c.1 d.1<|some (c.1.set d.1.toNat f.1,())) ((Xs b (a,())).bind λe=>cond (K4 (e.1<0)) (m9 a c.1 b) (m9 a c.1 e.1))
def cy(d:Bool)(b i a:Ze)(e:Int)(f:Bool):Od Int Ze Bool:=cond (!f) (Y ((-1:Int),a,Z,())) ((Zcu e b.1 d).bind λc=>(vx b.1 c.1 b.2.1 b.2.2.1).bind λg=>(lB a.2.2.2.1 g.1).bind λh=>Y (c.1,(tD a h.1),La,()))
def yZ(c:Ze)(d:Bool):Od Int Ze Bool:=(Zw c).bind λh=>(Jl c).bind λi=>cond ((!i.1)||(K4 ((c.2.2.2.1:Int)>=(24:Int)))) (Y ((-1:Int),h.1,Z,())) ((Jc h.1 d).bind λg=>cond g.1 ((yp g.2.1.2.2.2.2.2.2.2.1).bind λe=>(Jc g.2.1 d).bind λa=>cond a.1 (cy d c X9 (tL a.2.1 e.2.1) e.1 e.2.2.1) (cy d c X9 (tF a.2.1 e.2.1) e.1 e.2.2.1)) ((yp g.2.1.2.2.2.2.2.2.1).bind λf=>(Jc g.2.1 d).bind λb=>cond b.1 (cy d c X9 (tL b.2.1 f.2.1) f.1 f.2.2.1) (cy d c X9 (tF b.2.1 f.2.1) f.1 f.2.2.1)))
def Zg6(n:Int):Oa Ba:=Zh (-9223372036854775808<=n/\n<=9223372036854775807) (Y (Go.Lib.itoa n,()))
def ly(a:Int):Oa Ba:=(Zg6 a).bind λb=>Y (b.1,())
def ZB(a:Bool)(b c:Ba):Oa Ba:=cond a (Y (b,())) (Y (c,()))
def yr(a:Zk):Oa Bool:=(oa a).bind λb=>Y ((b.1&&((a.1==0)||(a.1==1)))&&(a.2.2.2.2.2.1==(-1:Int)),())
def JO(a:Q2):Oa Int:=(q8 a).bind λb=>cond (!b.1) (Y (0,())) (Y (min (K3.wrap (a.1- (K3.wrap (a.2.2.1-a.2.1)))) (K3.wrap (4611686018427387903-a.2.2.1)),()))
def QU(c:Ba)(d e f:Q2)(g a b:Int):Nat:=(a-b).toNat+1
def nf:Nat->Ba->Q2->Q2->Q2->Int->Int->Int->Oc Q2 Int
 |0,_,_,_,_,_,_,_=>Lb
 |N+1,d,c,h,a,e,g,b=>
  bif K4 (b<g)then
   Zh (c.1≠0)<|
   let f:Int:=Lc (K3.wrap (c.2.2.1+b)) c.1
   Zh (0<=b/\b<d)<|
   Zh (0<=f/\f<a.2.2.2.1)<|
   nf N d c h (a.1,a.2.1,a.2.2.1,a.2.2.2.1.set f.toNat (K3.wrap ((d.getD b.toNat 0).toNat:Int)),a.2.2.2.2) e g (K3.wrap (b+1))
  else
   Y ((a.1,a.2.1,K3.wrap (a.2.2.1+e),a.2.2.2),e,())
def uP(b:Ba)(c d e:Q2)(a:Int):Oc Q2 Int:=nf (QU b c d e a a (0:Int)) b c d e a a (0:Int)
def QT(a:Q2)(b:Ba):Oc Q2 Int:=qu ((kw a).bind λc=>dr 1 ((JO a).bind λd=>uP b a Zfw c.1 (min b d.1))) ((kw a).bind λc=>(JO a).bind λd=>uP b a Zfw c.1 (min b d.1))
def pe(a:Zk)(d:Ba):Oc Zk Int:=(Wo a).bind λb=>(yr a).bind λe=>cond (!e.1) (Y (b.1,0,())) ((QT a.2.1 d).bind λc=>(dv a.2.2.1 (a.2.1.2.2.1,K3.wrap (a.2.1.2.2.1+c.2.1),())).bind λf=>Y ((b.1.1,c.1,f.1,b.1.2.2.2),c.2.1,()))
def gA(c:Ze)(j:Int)(k:Ba)(b:Ze×Unit):Oc Int Ze:=
 (Z4 c.2.2.2.1 j).bind λa=>
 (Jl c).bind λg=>
 let d:=(!g.1)||(K4 (a.1<0))
 Zh ((d=Z->(Z=La->(0<=a.1/\a.1<c.2.2.2.1))))<|
 let e:=Z&&(!(gK c.2.2.2.1 a.1).2.2.2.2.2.2.2.1)
 Zh (((d||e)=Z->(La=La->(0<=a.1/\a.1<c.2.2.2.1))))<|
 let h:=La&&(!(gK c.2.2.2.1 a.1).2.2.2.2.2.2.1)
 bif(d||e)||h then
  Y (0,b.1,())
 else
  gG b.1.2.2.2.1 a.1<|
  (pe (gK b.1.2.2.2.1 a.1).2.1 k).bind λf=>
  let i:=b.1.2.2.2.1.set a.1.toNat (tT (gK b.1.2.2.2.1 a.1) f.1)
  Y (f.2.1,(tD b.1 i),())
def xq(c:Ze)(j:Int)(k:Ba):Oc Int Ze:=
 qu ((Zw c).bind λb=>dr 1 (gA c j k b)) ((Zw c).bind λb=>gA c j k b)
def uO(c a:Zv)(b:Ba):Option ((Ba×Zv×Unit)×(Unit)):=Y ((b,a,()),())
def uN(c a:Zv)(b:Int):Option ((Ba×Zv×Unit)×(Unit)):=
 bif K4 (b<=0)then
  Y (([],a,()),())
 else
  Zh (0<=(0:Int)/\(0:Int)<a.2.1)<|
  Zh (0<=(0:Int)/\0<=b/\b<=(a.2.1.getD (0:Int).toNat Qt).2.1)<|
  let d:=((a.2.1.getD (0:Int).toNat Qt).2.1.drop (0:Int).toNat).take (b.toNat- (0:Int).toNat)
  Zh (0<=(0:Int)/\(0:Int)<a.2.1)<|
  bif b==((a.2.1.getD (0:Int).toNat Qt).2.1:Int)then
   Zh (0<=(1:Int)/\1<=(a.2.1:Int)/\(a.2.1:Int)<=a.2.1)<|
   uO c (K3.wrap (a.1+b),(a.2.1.drop (1:Int).toNat).take ((a.2.1:Int).toNat- (1:Int).toNat),a.2.2) d
  else
   Zh (0<=(0:Int)/\(0:Int)<a.2.1)<|
   Zh (0<=b/\b<=((a.2.1.getD (0:Int).toNat Qt).2.1:Int)/\((a.2.1.getD (0:Int).toNat Qt).2.1:Int)<=(a.2.1.getD (0:Int).toNat Qt).2.1)<|
   Zh (0<=(0:Int)/\(0:Int)<a.2.1)<|
   uO c (K3.wrap (a.1+b),a.2.1.set (0:Int).toNat (K3.wrap (a.1+b),((a.2.1.getD (0:Int).toNat Qt).2.1.drop b.toNat).take (((a.2.1.getD (0:Int).toNat Qt).2.1:Int).toNat-b.toNat),()),a.2.2) d
def QS(a:Zv)(d:Int):Option ((Ba×Zv×Unit)×(Unit)):=qu ((ej a).bind λb=>dr 1 ((mC a).bind λc=>uN (0,[],()) b.1 (min d c.1))) ((ej a).bind λb=>(mC a).bind λc=>uN (0,[],()) b.1 (min d c.1))
def vz(c a:Zu)(b:Ba):Option ((Ba×Zu×Unit)×(Unit)):=Y ((b,a,()),())
def na(a:Zu)(d:Int):Option ((Ba×Zu×Unit)×(Unit)):=(bG a).bind λb=>(ca a).bind λe=>cond (!e.1) (Y (([],b.1,()),())) (cond (a.1==4) (Y (([],(5,b.1.2),()),())) ((QS a.2.1 d).bind λc=>cond ((a.1==2)&&(c.1.2.1.1==a.2.2.1)) (vz qr (3,c.1.2.1,b.1.2.2) c.1.1) (vz qr (tT b.1 c.1.2.1) c.1.1)))
def aG(a:Ql)(b:Int):Oc Ql Bool:=(kv a).bind λc=>(gH (!c.1) (Z1 b 0 (K3.wrap (a.2.2.2.1-a.2.2.2.2.1)))).bind λd=>cond ((!c.1)||(!d.1)) (Y (a,Z,())) (Y ((tG a (K3.wrap (a.2.2.2.2.1+b))),La,()))
def VL(a:Zf):Oa Bool:=Y (((!a.2.2.2.2.2.2.1)||(a.2.1.1==3))||(a.2.1.1==5),())
def VK(a:Zu):Oa Bool:=(ca a).bind λb=>Y (b.1&&((a.1==3)||(a.1==5)),())
def yV(a:Zf):Oa Bool:=(gH (!a.2.2.2.2.2.2.2.1) (VK a.2.2.2.1)).bind λb=>Y ((!a.2.2.2.2.2.2.2.1)||b.1,())
def J7(a:Zf):Oa Bool:=(yn a).bind λb=>(cond b.1 (VL a) (Y (Z,()))).bind λc=>(cond (b.1&&c.1) (yV a) (Y (Z,()))).bind λd=>Y ((b.1&&c.1)&&d.1,())
def Z5(a:Ze)(b:Int):Option ((Bool)×(Ze×Unit)):=(m7 b).bind λc=>cond c.1 (Y (La,a,())) (Y (Z,a,()))
def Xk(a:Ze)(b:Int):Option ((Bool)×(Ze×Unit)):=(m7 b).bind λc=>cond c.1 (Y (La,a,())) (Y (Z,a,()))
def Z0(a:Qu):Oc Qu Bool:=(rA a).bind λb=>cond ((!b.1)||(a.2.2.2.1==a.2.2.1)) (Y (a,Z,())) (Y ((tD a (K3.wrap (a.2.2.2.1+1))),La,()))
def gB(m:Ze)(l af:Int)(c:Ze×Unit):Option ((Ba×Bool×Ze×Unit)×(Unit)):=
 (Z4 m.2.2.2.1 l).bind λb=>
 (Jl m).bind λz=>
 let r:=(!z.1)||(K4 (b.1<0))
 Zh ((r=Z->(La=La->(0<=b.1/\b.1<m.2.2.2.1))))<|
 let u:=La&&(!(gK m.2.2.2.1 b.1).2.2.2.2.2.2.2.1)
 Zh (((r||u)=Z->(Z=La->(0<=b.1/\b.1<m.2.2.2.1))))<|
 let A:=Z&&(!(gK m.2.2.2.1 b.1).2.2.2.2.2.2.1)
 bif(r||u)||A then
  Y (([],Z,c.1,()),())
 else
  gG c.1.2.2.2.1 b.1<|
  (na (gK c.1.2.2.2.1 b.1).2.2.2.1 af).bind λk=>
  let a:=c.1.2.2.2.1.set b.1.toNat (tD (gK c.1.2.2.2.1 b.1) k.1.2.1)
  let B:=(gK a b.1).2.2.2.1.1 !=4
  let C:=(gK a b.1).2.2.2.1.1 !=5
  bif B&&C then
   let v:=K3.wrap ((gK a b.1).2.2.2.1.2.1.1- (gK a b.1).2.2.2.2.1.2.2.2.2.1)
   (aG (gK a b.1).2.2.2.2.1 v).bind λD=>
   let h:=a.set b.1.toNat (tG (gK a b.1) D.1)
   (aG c.1.2.2.2.2.2.1 v).bind λw=>
   let n:=(gK a b.1).2.2.2.1.1==3
   let o:=(gK a b.1).2.2.2.1.1==5
   (Z4 h l).bind λi=>
   gG h i.1<|
   (Vl c.1.1 l).bind λE=>
   let x:=E.1||(gK h i.1).2.2.2.2.2.2.2.2.2.2.2.2.2.1
   (gH x (J7 (gK h i.1))).bind λF=>
   bif x||(!F.1)then
    Y ((k.1.1,n||o,(tQ c.1 h w.1),()),())
   else
    let G:=h.set i.1.toNat (tA (gK h i.1) La)
    Le (Xk (tQ c.1 G w.1) l) λs=>
    bif s.1 then
     (Xk s.2.1 l).bind λd=>
     bif d.1 then
      (Z0 d.2.1.2.2.2.2.2.2.2.2.2.1).bind λH=>
      let I:Ze:=(tB d.2.1 H.1)
      Y ((k.1.1,n||o,I,()),())
     else
      (Z0 d.2.1.2.2.2.2.2.2.2.2.1).bind λJ=>
      let K:Ze:=(tB d.2.1 J.1)
      Y ((k.1.1,n||o,K,()),())
    else
     (Xk s.2.1 l).bind λf=>
     bif f.1 then
      (Z0 f.2.1.2.2.2.2.2.2.2.2.2.1).bind λL=>
      let M:Ze:=(tC f.2.1 L.1)
      Y ((k.1.1,n||o,M,()),())
     else
      (Z0 f.2.1.2.2.2.2.2.2.2.2.1).bind λO=>
      let P:Ze:=(tC f.2.1 O.1)
      Y ((k.1.1,n||o,P,()),())
  else
   let p:=(gK a b.1).2.2.2.1.1==3
   let q:=(gK a b.1).2.2.2.1.1==5
   (Z4 a l).bind λj=>
   gG a j.1<|
   (Vl c.1.1 l).bind λQ=>
   let y:=Q.1||(gK a j.1).2.2.2.2.2.2.2.2.2.2.2.2.2.1
   (gH y (J7 (gK a j.1))).bind λS=>
   bif y||(!S.1)then
    Y ((k.1.1,p||q,(tD c.1 a),()),())
   else
    let U:=a.set j.1.toNat (tA (gK a j.1) La)
    (Xk (tD c.1 U) l).bind λt=>
    bif t.1 then
     (Xk t.2.1 l).bind λe=>
     bif e.1 then
      (Z0 e.2.1.2.2.2.2.2.2.2.2.2.1).bind λV=>
      let W:Ze:=(tB e.2.1 V.1)
      Y ((k.1.1,p||q,W,()),())
     else
      (Z0 e.2.1.2.2.2.2.2.2.2.2.1).bind λX=>
      let aa:Ze:=(tB e.2.1 X.1)
      Y ((k.1.1,p||q,aa,()),())
    else
     (Xk t.2.1 l).bind λg=>
     bif g.1 then
      (Z0 g.2.1.2.2.2.2.2.2.2.2.2.1).bind λab=>
      let ac:Ze:=(tC g.2.1 ab.1)
      Y ((k.1.1,p||q,ac,()),())
     else
      (Z0 g.2.1.2.2.2.2.2.2.2.2.1).bind λad=>
      let ae:Ze:=(tC g.2.1 ad.1)
      Y ((k.1.1,p||q,ae,()),())
def y5(m:Ze)(l af:Int):Option ((Ba×Bool×Ze×Unit)×(Unit)):=
 qu ((Zw m).bind λc=>dr 1 (gB m l af c)) ((Zw m).bind λc=>gB m l af c)
def ry(a:Ba)(c:List Int)(b:Int):Nat:=(a-b).toNat+1
def mZ:Nat->Ba->List Int->Int->Oa Ba
 |0,_,_,_=>Lb
 |N+1,b,c,a=>
  bif K4 (a<(b:Int))then
   gG b a<|
   Zh ((16:Int)≠0)<|
   let d:Int:=Ld.wrap (Lf ((b.getD a.toNat 0).toNat:Int) (16:Int))
   Zh (0<=d/\d<([48,49,50,51,52,53,54,55,56,57,97,98,99,100,101,102]:Ba))<|
   gG b a<|
   Zh ((16:Int)≠0)<|
   let e:Int:=Lc ((b.getD a.toNat 0).toNat:Int) (16:Int)
   Zh (0<=e/\e<([48,49,50,51,52,53,54,55,56,57,97,98,99,100,101,102]:Ba))<|
   let f:List Int:=[((([48,49,50,51,52,53,54,55,56,57,97,98,99,100,101,102]:Ba).getD d.toNat 0).toNat:Int),((([48,49,50,51,52,53,54,55,56,57,97,98,99,100,101,102]:Ba).getD e.toNat 0).toNat:Int)]
   Zh (c+f<=Qp)<|
   mZ N b (c++f) (K3.wrap (a+1))
  else
   Y (Xx c,())
def vq(a:Ba):Oa Ba:=mZ (ry a ([]:List Int) (0:Int)) a ([]:List Int) (0:Int)
def QM(a:Ql):Oa Bool:=
 (kv a).bind λc=>
 let b:=c.1&&(K4 (a.2.2.1<4611686018427387903))
 Zh ((b=La->((2:Int)≠0)))<|
 Y (b&&(K4 ((K3.wrap ((K3.wrap (a.2.2.2.2.1+a.1))-a.2.2.1))>=(K3.wrap (Lf (K3.wrap (a.1+1)) (2:Int))))),())
def xV(b:Int)(a c:Ql):Oc Ql Bool:=Y ((a.1,a.2.1,min (K3.wrap (a.2.2.2.2.1+a.1)) 4611686018427387903,a.2.2.2.1,a.2.2.2.2.1,b,a.2.2.2.2.2.2),La,())
def pa(a:Ql)(b d:Int):Oc Ql Bool:=(QM a).bind λc=>(gH (!c.1) (Z1 b a.2.2.2.2.2.1 1000000)).bind λe=>(gH ((!c.1)||(!e.1)) (Z1 d 1 1000)).bind λf=>cond (((!c.1)||(!e.1))||(!f.1)) (Y (a,Z,())) (cond (K4 ((K3.wrap (b-a.2.2.2.2.2.1))<(K3.wrap (2*d)))) (xV b (min (K3.wrap (2*a.1)) a.2.1,a.2) Zln) (xV b a Zln))
def ij(b:Ze)(a:Ql)(d:Bool):Oc Int Bool:=(QM a).bind λe=>cond (!e.1) (Y (a.2.2.1,d,())) ((pa a b.2.2.2.2.2.2.2.2.2.2.2.2.2.2.2.2.1 b.2.1.2.2.2.2.2.2.2.1).bind λc=>Y (c.1.2.2.1,c.2.1,()))
def vw(a:Qu):Oa Bool:=(rA a).bind λb=>Zh (((b.1&&(K4 (a.1>0)))=La->((2:Int)≠0)))<|some ((b.1&&(K4 (a.1>0)))&&(K4 ((K3.wrap ((K3.wrap (a.2.2.2.1+a.1))-a.2.1))>=(K3.wrap (Lf (K3.wrap (a.1+1)) (2:Int))))),())
def mB(a:Qu):Oc Qu Bool:=(vw a).bind λb=>cond ((!b.1)||(K4 ((K3.wrap (a.2.2.2.1+a.1))>1152921504606846976))) (Y (a,Z,())) (Y ((a.1,K3.wrap (a.2.2.2.1+a.1),a.2.2),La,()))
def v8(a:Qu)(c:Bool):Oc Int Bool:=(vw a).bind λd=>cond (!d.1) (Y (a.2.1,c,())) ((mB a).bind λb=>Y (b.1.2.1,b.2.1,()))
def lG(a:Zu):Oa Bool:=Y ((a.1==0)||(a.1==1),())
def Zd5(a:Qu):Oa Bool:=(dw a).bind λb=>Y (b.1&&(a.2.2.1==a.1),())
def eQ(a:Zf)(b:List Zj):Oa (List Zj):=
 (Zd5 a.2.2.1).bind λd=>
 bif(d.1&&a.2.2.2.2.2.2.1)&&(K4 ((a.2.1.2.2.1:Int)>(0:Int)))then
  let c:List Zj:=[(21,a.1,0,[],Z,0,a.2.2.1.1,0,Z,())]
  Zh (b+c<=Qp)<|
  Y (b++c,())
 else
  Y (b,())
def bt(e:Ze)(a:Zf)(b:List Zj):Oa (List Zj):=
 bif(a.2.2.2.2.2.2.2.1&&(a.2.2.2.1.1==0))&&(!a.2.2.2.2.2.2.2.2.2.2.2.1)then
  (ij e a.2.2.2.2.1 a.2.2.2.2.2.2.2.2.2.2.1).bind λc=>
  bif c.2.1 then
   let d:List Zj:=[(17,a.1,0,[],Z,0,c.1,0,Z,())]
   Zh (b+d<=Qp)<|
   eQ a (b++d)
  else
   eQ a b
 else
  eQ a b
def br(c:Ze)(a:Zf)(b:List Zj):Oa (List Zj):=
 (cond a.2.2.2.2.2.2.2.2.2.1 (lG a.2.2.2.1) (Y (Z,()))).bind λe=>
 bif a.2.2.2.2.2.2.2.2.2.1&&e.1 then
  let d:List Zj:=[(5,a.1,0,[],Z,a.2.2.2.2.2.2.2.2.2.2.2.2.1,0,0,Z,())]
  Zh (b+d<=Qp)<|
  bt c a (b++d)
 else
  bt c a b
def kf(b:Ze)(a:Zf):Oa (List Zj):=
 bif a.2.2.2.2.2.2.2.2.1 then
  let c:List Zj:=[(4,a.1,0,[],Z,a.2.1.2.2.2.2.2.2.2.2.1,0,a.2.1.2.2.2.2.2.2.2.1,Z,())]
  Zh (([]:List Zj)+c<=Qp)<|
  br b a ([]++c)
 else
  br b a []
def uf(a:Ze)(b:List Zj):Oa (List Zj):=
 bif a.2.2.2.2.2.2.2.1.2.2.1==a.2.2.2.2.2.2.2.1.1 then
  let c:List Zj:=[(22,0,0,[],Z,0,a.2.2.2.2.2.2.2.1.1,0,La,())]
  Zh (b+c<=Qp)<|
  Y (b++c,())
 else
  Y (b,())
def ue(a:Ze)(b:List Zj):Oa (List Zj):=
 bif a.2.2.2.2.2.2.1.2.2.1==a.2.2.2.2.2.2.1.1 then
  let c:List Zj:=[(22,0,0,[],Z,0,a.2.2.2.2.2.2.1.1,0,Z,())]
  Zh (b+c<=Qp)<|
  uf a (b++c)
 else
  uf a b
def vn(c:Ze)(d:List Zj)(e:List Zf)(a b:Int):Nat:=(a-b).toNat+1
def fg:Nat->Ze->List Zj->List Zf->Int->Int->Oa (List Zj)
 |0,_,_,_,_,_=>Lb
 |N+1,a,b,d,e,c=>
  bif K4 (c<e)then
   Zh (0<=c/\c<d)<|
   (kf a (d.getD c.toNat Zc)).bind λf=>
   Zh (b+f.1<=Qp)<|
   fg N a (b++f.1) d e (K3.wrap (c+1))
  else
   (Zd5 a.2.2.2.2.1).bind λh=>
   bif h.1 then
    let g:List Zj:=[((20:Int),(0:Int),(0:Int),([]:Ba),Z,(0:Int),a.2.2.2.2.1.1,(0:Int),Z,())]
    Zh (b+g<=Qp)<|
    ue a (b++g)
   else
    ue a b
def ff(a:Ze)(b:List Zj):Oa (List Zj):=fg (vn a b a.2.2.2.1 a.2.2.2.1 (0:Int)) a b a.2.2.2.1 a.2.2.2.1 (0:Int)
def fe(a:Ze)(b:List Zj):Oa (List Zj):=
 (v8 a.2.2.2.2.2.2.2.2.2.1 a.2.2.2.2.2.2.2.2.2.2.2.2.1).bind λc=>
 bif c.2.1 then
  let d:List Zj:=[(18,0,0,[],Z,0,c.1,0,La,())]
  Zh (b+d<=Qp)<|
  ff a (b++d)
 else
  ff a b
def fd(a:Ze)(b:List Zj):Oa (List Zj):=
 (v8 a.2.2.2.2.2.2.2.2.1 a.2.2.2.2.2.2.2.2.2.2.2.1).bind λc=>
 bif c.2.1 then
  let d:List Zj:=[(18,0,0,[],Z,0,c.1,0,Z,())]
  Zh (b+d<=Qp)<|
  fe a (b++d)
 else
  fe a b
def rt(a:Ze):Oa (List Zj):=
 (Jl a).bind λd=>
 bif !d.1 then
  Y ([],())
 else
  (ij a a.2.2.2.2.2.1 a.2.2.2.2.2.2.2.2.2.2.1).bind λb=>
  bif b.2.1 then
   let c:List Zj:=[(16,0,0,[],Z,0,b.1,0,Z,())]
   Zh (([]:List Zj)+c<=Qp)<|
   fd a ([]++c)
  else
   fd a []
def Ya(a:Int):Oa Ba:=Y (Xx ([(Ld.wrap a)]),())
def KV(a:Int):Oa Int:=(Xq a).bind λb=>cond (!b.1) (Y (0,())) (cond (K4 (a<64)) (Y (1,())) (cond (K4 (a<16384)) (Y (2,())) (cond (K4 (a<1073741824)) (Y (4,())) (Y (8,())))))
def cw(a:List Int):Oa Ba:=Y (Xx a,())
def cO(b c:Int)(d:List Int)(a:Int):Nat:=(a-0).toNat+2
def Kn:Nat->Int->Int->List Int->Int->Oa Ba|0,_,_,_,_=>Lb|N+1,d,c,a,b=>cond (K4 (b>=(0:Int))) (Zh (0<=b/\b<a)<|Zh (0<=(8:Int))<|Kn N (d.fdiv (2^ (min (8:Int).toNat K3.bits))) c (a.set b.toNat (Ld.wrap d)) (K3.wrap (b-1))) (cond (c==2) (Zh (0<=(0:Int)/\(0:Int)<a)<|Zh (0<=(0:Int)/\(0:Int)<a)<|cw (a.set (0:Int).toNat (bits .or .u8 (a.getD (0:Int).toNat (0:Int)) (64:Int)))) (cond (c==4) (Zh (0<=(0:Int)/\(0:Int)<a)<|Zh (0<=(0:Int)/\(0:Int)<a)<|cw (a.set (0:Int).toNat (bits .or .u8 (a.getD (0:Int).toNat (0:Int)) (128:Int)))) (cond (c==8) (Zh (0<=(0:Int)/\(0:Int)<a)<|Zh (0<=(0:Int)/\(0:Int)<a)<|cw (a.set (0:Int).toNat (bits .or .u8 (a.getD (0:Int).toNat (0:Int)) (192:Int)))) (cw a))))
def Y7(b:Int):Oa Ba:=(KV b).bind λa=>cond (a.1==0) (Y ([],())) (Zh (0<=a.1/\a.1<=a.1/\a.1<=Qp)<|Kn (cO b a.1 (Lg a.1.toNat (0:Int)) (K3.wrap (a.1-1))) b a.1 (Lg a.1.toNat (0:Int)) (K3.wrap (a.1-1)))
def nY(c:Ba)(d:List Int)(a b:Int):Nat:=(a-b).toNat+1
def bw:Nat->Ba->List Int->Int->Int->Oa Ba|0,_,_,_,_=>Lb|N+1,c,b,d,a=>cond (K4 (a<d)) (Zh (0<=a/\a<b)<|(Xq (b.getD a.toNat (0:Int))).bind λf=>cond (!f.1) (Y (([]:Ba),())) ((Y7 (b.getD a.toNat (0:Int))).bind λe=>Zh (c+e.1<=Jv)<|bw N (c++e.1) b d (K3.wrap (a+1)))) (Y (c,()))
def aZ(a:List Int):Oa Ba:=bw (nY ([]:Ba) a a (0:Int)) ([]:Ba) a a (0:Int)
def W5(a:Zj)(b:Ba):Oa Ba:=(Y7 a.2.2.2.1).bind λc=>Zh (b+c.1<=Jv)<|Zh ((b++c.1).length+a.2.2.2.1<=Jv)<|some ((b++c.1)++a.2.2.2.1,())
def Kv(a:Zj)(h:Unit)(f:Bool):Oa Ba:=cond f (dr 1 ((Ya a.1).bind λb=>(aZ ([a.2.1,a.2.2.2.2.2.2.1])).bind λc=>Zh (b.1+c.1<=Jv)<|some (b.1++c.1,()))) ((jx a.2.2.2.2.2.2.2.2.1).bind λg=>(Ya (K3.wrap (a.1+g.1))).bind λd=>(Y7 a.2.2.2.2.2.2.1).bind λe=>Zh (d.1+e.1<=Jv)<|some (d.1++e.1,()))
def Xv(a:Zj)(f:Unit)(b:Int)(e:Bool):Oa Ba:=cond e ((Ya a.1).bind λc=>(Y7 a.2.2.2.2.2.2.1).bind λd=>Zh (c.1+d.1<=Jv)<|some (c.1++d.1,())) (cond (b==17) (Kv a () (b==17)) (Kv a () (b==21)))
def fJ(a:Zj):Oa Ba:=(ao a).bind λi=>cond (!i.1) (Y ([],())) (cond (a.1==4) (dr 1 ((Ya a.1).bind λd=>(aZ ([a.2.1,a.2.2.2.2.2.1,a.2.2.2.2.2.2.2.1])).bind λe=>Zh (d.1+e.1<=Jv)<|some (d.1++e.1,()))) (cond (a.1==5) (dr 1 ((Ya a.1).bind λf=>(aZ ([a.2.1,a.2.2.2.2.2.1])).bind λg=>Zh (f.1+g.1<=Jv)<|some (f.1++g.1,()))) (cond (a.1==8) ((jx a.2.2.2.2.1).bind λj=>(jx (a.2.2.1 !=0)).bind λk=>(Ya (K3.wrap ((K3.wrap (10+j.1))+(K3.wrap (4*k.1))))).bind λb=>(Y7 a.2.1).bind λc=>Zh (b.1+c.1<=Jv)<|cond (a.2.2.1 !=0) ((Y7 a.2.2.1).bind λh=>Zh ((b.1++c.1).length+h.1<=Jv)<|W5 a ((b.1++c.1)++h.1)) (W5 a (b.1++c.1))) (cond (a.1==16) (Xv a () a.1 (a.1==16)) (Xv a () a.1 (a.1==20))))))
def oX(a:Zj):Oa Int:=(fJ a).bind λb=>Y (b.1,())
def uG(a:Qu):Oa Qu:=(dw a).bind λb=>cond (b.1&&(a.2.2.1 !=(-1:Int))) (Y ((a.1,a.2.1,(-1:Int),a.2.2.1,a.2.2.2.2),())) (Y (a,()))
def oA(f:Ze)(d:Zj)(p a:Ze)(b:Int):Oa Ze:=
 (K7 f).bind λg=>
 (gH (!g.1) (Wa d)).bind λh=>
 bif(!g.1)||(h.1&&(K4 (b<0)))then
  Y (a,())
 else
  bif d.1==16 then
   (pa f.2.2.2.2.2.1 f.2.2.2.2.2.2.2.2.2.2.2.2.2.2.2.2.1 f.2.1.2.2.2.2.2.2.2.1).bind λi=>
   Y ((tW a i.1 Z),())
  else
   bif d.1==18 then
    bif d.2.2.2.2.2.2.2.2.1 then
     (mB f.2.2.2.2.2.2.2.2.2.1).bind λj=>
     Y ((tS a j.1 Z),())
    else
     (mB f.2.2.2.2.2.2.2.2.1).bind λk=>
     Y ((tU a k.1 Z),())
   else
    bif d.1==20 then
     (uG f.2.2.2.2.1).bind λl=>
     Y ((tG a l.1),())
    else
     bif d.1==22 then
      (Jc a d.2.2.2.2.2.2.2.2.1).bind λc=>
      bif c.1 then
       Y ((tL c.2.1 (tO c.2.1.2.2.2.2.2.2.2.1 (-1:Int))),())
      else
       Y ((tF c.2.1 (tO c.2.1.2.2.2.2.2.2.1 (-1:Int))),())
     else
      (Wa d).bind λm=>
      bif m.1 then
       gG a.2.2.2.1 b<|
       bif d.1==4 then
        Y ((tD a (a.2.2.2.1.set b.toNat (tC (gK a.2.2.2.1 b) Z))),())
       else
        bif d.1==5 then
         Y ((tD a (a.2.2.2.1.set b.toNat (tB (gK a.2.2.2.1 b) Z))),())
        else
         bif d.1==17 then
          (pa (gK a.2.2.2.1 b).2.2.2.2.1 a.2.2.2.2.2.2.2.2.2.2.2.2.2.2.2.2.1 a.2.1.2.2.2.2.2.2.2.1).bind λn=>
          let e:=a.2.2.2.1.set b.toNat (tG (gK a.2.2.2.1 b) n.1)
          Y ((tD a (e.set b.toNat (tE (gK e b) Z))),())
         else
          bif d.1==21 then
           (uG (gK a.2.2.2.1 b).2.2.1).bind λo=>
           Y ((tD a (a.2.2.2.1.set b.toNat (tO (gK a.2.2.2.1 b) o.1))),())
          else
           Y (a,())
      else
       Y (a,())
def xl(a:Ze)(b:Zj):Oa Ze:=qu ((Zw a).bind λc=>dr 1 ((Z4 a.2.2.2.1 b.2.1).bind λd=>oA a b X9 c.1 d.1)) ((Zw a).bind λc=>(Z4 a.2.2.2.1 b.2.1).bind λd=>oA a b X9 c.1 d.1)
def ce(c:List Int)(d a b:Int):Nat:=(a-b).toNat+1
def cV:Nat->List Int->Int->Int->Int->Oa Int|0,_,_,_,_=>Lb|N+1,b,c,d,a=>cond (K4 (a<d)) (gG b a<|cond (c==(b.getD a.toNat (0:Int))) (Y (a,())) (cV N b c d (K3.wrap (a+1)))) (Y ((-1:Int),()))
def wo(a:List Int)(b:Int):Oa Int:=cV (ce a b a (0:Int)) a b a (0:Int)
def iV(a:List Int)(b:Int):Oa Bool:=(wo a b).bind λc=>Y (K4 (c.1>=0),())
def v9(c:List Int)(d:List Zo)(e:List Zf)(a b:Int):Nat:=(a-b).toNat+1
def mE:Nat->List Int->List Zo->List Zf->Int->Int->Oa (List Zo)
 |0,_,_,_,_,_=>Lb
 |N+1,d,c,b,e,a=>
  bif K4 (a<e)then
   gG b a<|
   (cond (gK b a).2.2.2.2.2.2.1 (Z1 (gK b a).2.1.1 (0:Int) (2:Int)) (Y (Z,()))).bind λh=>
   let f:Bool:=((gK b a).2.2.2.2.2.2.1&&h.1)&&((K4 (((gK b a).2.1.2.2.1:Int)>(0:Int)))||((gK b a).2.1.2.2.2.2.2.2.1==1))
   (cond f (iV d (gK b a).1) (Y (Z,()))).bind λi=>
   bif f&&(!i.1)then
    let g:List Zo:=[((gK b a).1,(gK b a).2.2.2.2.2.1,())]
    Zh (c+g<=Qp)<|
    mE N d (c++g) b e (K3.wrap (a+1))
   else
    mE N d c b e (K3.wrap (a+1))
  else
   Y (c,())
def WT(a:Ze)(b:List Int):Oa (List Zo):=mE (v9 b ([]:List Zo) a.2.2.2.1 a.2.2.2.1 (0:Int)) b ([]:List Zo) a.2.2.2.1 a.2.2.2.1 (0:Int)
def dB(c d:List Zo)(a b:Int):Nat:=(a-b).toNat+1
def bQ:Nat->List Zo->List Zo->Int->Int->Oa Bool|0,_,_,_,_=>Lb|N+1,c,b,e,a=>cond (K4 (a<e)) (gG b a<|(Xq (gM b a).1).bind λd=>(gH (!d.1) (mz (gM b a).2.1)).bind λf=>Zh ((((!d.1)||(!f.1))=Z->((K4 (a>(0:Int)))=La->(0<=(K3.wrap (a-1))/\(K3.wrap (a-1))<c))))<|cond (((!d.1)||(!f.1))||((K4 (a>(0:Int)))&&(K4 ((c.getD (K3.wrap (a-1)).toNat Qs).1>=(gM b a).1)))) (Y (Z,())) (bQ N c b e (K3.wrap (a+1)))) (Y (La,()))
def lq(a:List Zo):Oa Bool:=bQ (dB a a a (0:Int)) a a a (0:Int)
def oC(c:Int)(d e:List Zo)(a b:Int):Nat:=(a-b).toNat+1
def iu:Nat->Int->List Zo->List Zo->Int->Int->Oa (List Zo)|0,_,_,_,_,_=>Lb|N+1,d,c,b,e,a=>cond (K4 (a<e)) (Zh (0<=a/\a<b)<|cond ((b.getD a.toNat Qs).2.1.1==d) (Zh (c+([(b.getD a.toNat Qs)])<=Qp)<|iu N d (c++([(b.getD a.toNat Qs)])) b e (K3.wrap (a+1))) (iu N d c b e (K3.wrap (a+1)))) (Y (c,()))
def oB(c:List Zo)(d:Int)(e f:List Zo)(a b:Int):Nat:=(a-b).toNat+1
def pi:Nat->List Zo->Int->List Zo->List Zo->Int->Int->Oa (List Zo)|0,_,_,_,_,_,_=>Lb|N+1,a,c,d,e,f,b=>cond (K4 (b<f)) (gG e b<|pi N a (min c (gM e b).2.1.1) d e f (K3.wrap (b+1))) (iu (oC c d a a (0:Int)) c d a a (0:Int))
def Zcv(a:List Zo):Oa (List Zo):=pi (oB a (7:Int) ([]:List Zo) a a (0:Int)) a (7:Int) ([]:List Zo) a a (0:Int)
def kh(c:List Zo)(d:Int)(e:List Zo)(a b:Int):Nat:=(a-b).toNat+1
def iS:Nat->List Zo->Int->List Zo->Int->Int->Oa Int|0,_,_,_,_,_=>Lb|N+1,c,d,b,e,a=>cond (K4 (a<e)) (gG b a<|cond (K4 ((gM b a).1>d)) (Y ((gM b a).1,())) (iS N c d b e (K3.wrap (a+1)))) (Zh (0<=(0:Int)/\(0:Int)<c)<|some ((c.getD (0:Int).toNat Qs).1,()))
def QO(a:List Zo)(b:Int):Oa Int:=(gH ((a:Int)==(0:Int)) (lq a)).bind λc=>cond (((a:Int)==(0:Int))||(!c.1)) (Y ((-1:Int),())) (iS (kh a b a a (0:Int)) a b a a (0:Int))
def iR(c:Int)(d:List Zo)(a b:Int):Nat:=(a-b).toNat+1
def fL:Nat->Int->List Zo->Int->Int->Oa Int|0,_,_,_,_=>Lb|N+1,c,b,d,a=>cond (K4 (a<d)) (Zh (0<=a/\a<b)<|cond (!(b.getD a.toNat Qs).2.1.2.1) (Y ((b.getD a.toNat Qs).1,())) (fL N c b d (K3.wrap (a+1)))) ((QO b c).bind λe=>Y (e.1,()))
def yY(a:List Zo)(c:Int):Oa Int:=(gH ((a:Int)==(0:Int)) (lq a)).bind λd=>cond (((a:Int)==(0:Int))||(!d.1)) (Y ((-1:Int),())) ((Zcv a).bind λb=>fL (iR c b.1 b.1 (0:Int)) c b.1 b.1 (0:Int))
def VI(a:Qu):Oa Int:=(dw a).bind λb=>cond (!b.1) (Y (0,())) (Y (K3.wrap (a.1-a.2.1),()))
def bU(a:Zk):Oa Bool:=(oa a).bind λb=>(cond b.1 (Z1 a.1 0 2) (Y (Z,()))).bind λc=>Y (b.1&&c.1,())
def ui(c:Int)(d:Q2)(e:List Int)(a b:Int):Nat:=(a-b).toNat+1
def o9:Nat->Int->Q2->List Int->Int->Int->Oc Ba Bool
 |0,_,_,_,_,_=>Lb
 |N+1,e,a,b,f,c=>
  bif K4 (c<f)then
   Zh (a.1≠0)<|
   let d:Int:=Lc (K3.wrap (e+c)) a.1
   gG a.2.2.2.1 d<|
   let g:List Int:=[(Ld.wrap (a.2.2.2.1.getD d.toNat (0:Int)))]
   Zh (b+g<=Qp)<|
   o9 N e a (b++g) f (K3.wrap (c+1))
  else
   Y (Xx b,La,())
def tp(a:Q2)(b c:Int):Oc Ba Bool:=
 (q8 a).bind λe=>
 let d:=(!e.1)||(K4 (c<0))
 (cond d (Y (Z,())) (Z1 b a.2.1 a.2.2.1)).bind λf=>
 bif(d||(!f.1))||(K4 (c>(K3.wrap (a.2.2.1-b))))then
  Y ([],Z,())
 else
  o9 (ui b a ([]:List Int) c (0:Int)) b a ([]:List Int) c (0:Int)
def m8(a:Zk)(e:Qe)(b:Zi)(c:Int):Oc Qe Bool:=cond (K4 (c<=0)) (Y (iK,Z,())) ((tp a.2.1 b.1 c).bind λd=>Y ((b.1,d.1,(a.2.2.2.2.2.2.1==1)&&((K3.wrap (b.1+c))==a.2.2.2.2.2.1),()),La,()))
def QN(a:Zk)(d b:Int):Oc Qe Bool:=
 (bU a).bind λe=>
 bif !e.1 then
  Y (iK,Z,())
 else
  bif(a.2.2.1:Int)==(0:Int)then
   (jx (a.2.2.2.2.2.2.1==1)).bind λf=>
   Y ((K3.wrap ((max a.2.2.2.2.2.1 0)*f.1),[],a.2.2.2.2.2.2.1==1,()),a.2.2.2.2.2.2.1==1,())
  else
   Zh (0<=(0:Int)/\(0:Int)<a.2.2.1)<|
   let c:=min (K3.wrap ((a.2.2.1.getD (0:Int).toNat Z3).2.1- (a.2.2.1.getD (0:Int).toNat Z3).1)) d
   bif K4 (b<=(a.2.2.1.getD (0:Int).toNat Z3).1)then
    Y (iK,Z,())
   else
    bif K4 (b<(K3.wrap ((a.2.2.1.getD (0:Int).toNat Z3).1+c)))then
     m8 a iK (a.2.2.1.getD (0:Int).toNat Z3) (K3.wrap (b- (a.2.2.1.getD (0:Int).toNat Z3).1))
    else
     m8 a iK (a.2.2.1.getD (0:Int).toNat Z3) c
def mA(b:Int)(a:Qe):Oa Zj:=Y ((8,b,a.1,a.2.1,a.2.2.1,0,0,0,Z,()),())
def uj(b c:Int)(d:Qe)(e:Zf)(f a:Int):Nat:=(a-1).toNat+2
def kA:Nat->Int->Int->Qe->Zf->Int->Int->Oc Qe Bool|0,_,_,_,_,_,_=>Lb|N+1,c,d,g,e,f,b=>cond (K4 (b>=(1:Int))) ((QN e.2.1 b f).bind λa=>(cond a.2.1 (mA c a.1) (Y (Qc,()))).bind λh=>(cond a.2.1 (oX h.1) (Y ((0:Int),()))).bind λi=>(cond a.2.1 (Z1 i.1 (1:Int) d) (Y (Z,()))).bind λj=>cond (a.2.1&&j.1) (Y (a.1,La,())) (kA N c d g e f (K3.wrap (b-1)))) (Y (iK,Z,()))
def KU(a:Ze)(d c:Int):Oc Qe Bool:=
 (Z4 a.2.2.2.1 d).bind λb=>
 (K7 a).bind λg=>
 let e:=(!g.1)||(K4 (b.1<0))
 Zh ((e=Z->(0<=b.1/\b.1<a.2.2.2.1)))<|
 bif(e||(!(gK a.2.2.2.1 b.1).2.2.2.2.2.2.1))||(K4 (c<3))then
  Y (iK,Z,())
 else
  gG a.2.2.2.1 b.1<|
  (VI a.2.2.2.2.1).bind λh=>
  let f:=min (gK a.2.2.2.1 b.1).2.2.1.1 (K3.wrap ((gK a.2.2.2.1 b.1).2.1.2.2.2.2.2.2.2.1+h.1))
  kA (uj d c iK (gK a.2.2.2.1 b.1) f (min (60:Int) c)) d c iK (gK a.2.2.2.1 b.1) f (min (60:Int) c)
def xm(a:Qu):Oa Qu:=(dw a).bind λb=>cond (((b.1&&(a.2.1==a.1))&&(a.2.2.1==(-1:Int)))&&(a.2.2.2.1 !=a.1)) (Y ((tO a a.1),())) (Y (a,()))
def tq(b:Zk)(a:Qe):Oa Bool:=cond (((K4 (a.1<0))||(K4 (a.1>b.2.1.2.2.1)))||(K4 (a.2.1>(K3.wrap (b.2.1.2.2.1-a.1))))) (Y (Z,())) (Y ((!a.2.2.1)||((K3.wrap (a.1+(a.2.1:Int)))==b.2.2.2.2.2.1),()))
def mr(c d:List Zi)(e:Zi)(f:List Zi)(g h:Int)(i:List Zi)(a b:Int):Nat:=(a-b).toNat+1
def aD(K1:(List Zi×List Zi×List Zi×Int×Int×Unit)->Oa (List Zi)):Nat->List Zi->List Zi->Zi->List Zi->Int->Int->List Zi->Int->Int->Oa (List Zi)
 |0,_,_,_,_,_,_,_,_,_=>Lb
 |N+1,e,c,d,f,g,h,b,i,a=>
  bif K4 (a<i)then
   gG b a<|
   let j:Int:=max d.1 (gI b a).1
   let k:Int:=min d.2.1 (gI b a).2.1
   bif K4 (j<k)then
    Zh (c+([(j,k,())]).length<=Qp)<|
    aD K1 N e (c++([(j,k,())])) d f g h b i (K3.wrap (a+1))
   else
    aD K1 N e c d f g h b i (K3.wrap (a+1))
  else
   K1 (e,c,f,g,K3.wrap (h+1),())
def eO(c d e:List Zi)(a b:Int):Nat:=(a-b).toNat+1
def cL:Nat->List Zi->List Zi->List Zi->Int->Int->Oa (List Zi)|0,_,_,_,_,_=>Lb|N+1,b,d,c,e,a=>cond (K4 (a<e)) (Zh (0<=a/\a<c)<|aD (λv=>cL N v.1 v.2.1 v.2.2.1 v.2.2.2.1 v.2.2.2.2.1) (mr b d (c.getD a.toNat Z3) c e a b b (0:Int)) b d (c.getD a.toNat Z3) c e a b b (0:Int)) (Y (d,()))
def iN(a b:List Zi):Oa (List Zi):=(aU a).bind λc=>(gH (!c.1) (aU b)).bind λd=>cond ((!c.1)||(!d.1)) (Y ([],())) (cL (eO b ([]:List Zi) a a (0:Int)) b ([]:List Zi) a a (0:Int))
def K5(c d:List Zi)(a b:Int):Nat:=(a-b).toNat+1
def Yj:Nat->List Zi->List Zi->Int->Int->Oa Bool|0,_,_,_,_=>Lb|N+1,b,c,d,a=>cond (K4 (a<d)) (gG b a<|gG c a<|cond (!(eqV Zz (gI b a) (gI c a))) (Y (Z,())) (Yj N b c d (K3.wrap (a+1)))) (Y (La,()))
def Je(a b:List Zi):Oa Bool:=cond (a !=(b:Int)) (Y (Z,())) (Yj (K5 a b a (0:Int)) a b a (0:Int))
def Wu(a b:List Zi):Oa Bool:=(Je a b).bind λc=>Y (c.1,())
def ju(K1:(Zi×List Zi×List Zi×Int×Int×Unit)->Oa (List Zi))(a:Zi)(c:List Zi)(b:Zi)(d:List Zi)(e f:Int):Oa (List Zi):=
 bif K4 ((max b.1 a.2.1)<b.2.1)then
  let g:List Zi:=[(max b.1 a.2.1,b.2.1,())]
  Zh (c+g<=Qp)<|
  K1 (a,c++g,d,e,K3.wrap (f+1),())
 else
  K1 (a,c,d,e,K3.wrap (f+1),())
def gg(c:Zi)(d e:List Zi)(a b:Int):Nat:=(a-b).toNat+1
def W6:Nat->Zi->List Zi->List Zi->Int->Int->Oa (List Zi)
 |0,_,_,_,_,_=>Lb
 |N+1,c,d,b,e,a=>
  bif K4 (a<e)then
   Zh (0<=a/\a<b)<|
   bif K4 ((b.getD a.toNat Z3).1<(min (b.getD a.toNat Z3).2.1 c.1))then
    let f:List Zi:=[((b.getD a.toNat Z3).1,min (b.getD a.toNat Z3).2.1 c.1,())]
    Zh (d+f<=Qp)<|
    ju (λv=>W6 N v.1 v.2.1 v.2.2.1 v.2.2.2.1 v.2.2.2.2.1) c (d++f) (b.getD a.toNat Z3) b e a
   else
    ju (λv=>W6 N v.1 v.2.1 v.2.2.1 v.2.2.2.1 v.2.2.2.2.1) c d (b.getD a.toNat Z3) b e a
  else
   Y (d,())
def kB(a:List Zi)(b:Zi):Oa (List Zi):=(aU a).bind λc=>(gH (!c.1) (QX b)).bind λd=>cond ((!c.1)||(!d.1)) ((aV a).bind λe=>Y (e.1,())) (W6 (gg b ([]:List Zi) a a (0:Int)) b ([]:List Zi) a a (0:Int))
def uM(c a:Zk):Oc Zk Bool:=(lE a).bind λb=>Y ((b.1,a.2),La,())
def nc(c:Qe)(b a:Zk):Oc Zk Bool:=cond c.2.2.1 (uM b (tF a 2)) (uM b a)
def QQ(b:Zk)(d:Qe)(e a:Zk)(c:Zi)(f:Bool):Oc Zk Bool:=cond f (Y (a,Z,())) ((kB b.2.2.1 c).bind λg=>(dv b.2.2.2.1 c).bind λh=>nc d e (a.1,a.2.1,g.1,h.1,a.2.2.2.2.1,a.2.2.2.2.2.1,a.2.2.2.2.2.2.1,max b.2.2.2.2.2.2.2.1 c.2.1,a.2.2.2.2.2.2.2.2))
def QP(b:Zk)(a:Qe):Oc Zk Bool:=
 (Wo b).bind λc=>
 (bU b).bind λe=>
 (gH (!e.1) (tq b a)).bind λf=>
 bif(((!e.1)||(!f.1))||(a.2.2.1&&(b.2.2.2.2.2.2.1 !=1)))||((a.2.1==[])&&(!a.2.2.1))then
  Y (c.1,Z,())
 else
  bif !(a.2.1==[])then
   let d:=K3.wrap (a.1+(a.2.1:Int))
   (λm=>qu (qu m m) m) (
    (iN b.2.2.1 ([(a.1,d,())])).bind λg=>
    (Wu g.1 ([(a.1,d,())])).bind λh=>
    QQ b a Yw c.1 (a.1,d,()) (!h.1)
   )
  else
   nc a Yw c.1
def v5(a:Qu)(b:Int):Oc Qu Bool:=(dw a).bind λc=>(gH (!c.1) (Z1 b 0 (K3.wrap (a.1-a.2.1)))).bind λd=>cond ((!c.1)||(!d.1)) (Y (a,Z,())) (Y ((a.1,K3.wrap (a.2.1+b),a.2.2),La,()))
def QL(i:Int)(d l a:Ze)(b:Int)(e:Zk)(j:Bool):Oc Ze Bool:=
 let f:=K3.wrap (e.2.2.2.2.2.2.2.1- (gK a.2.2.2.1 b).2.1.2.2.2.2.2.2.2.1)
 (v5 (gK a.2.2.2.1 b).2.2.1 f).bind λg=>
 (v5 d.2.2.2.2.1 f).bind λh=>
 bif((!j)||(!g.2.1))||(!h.2.1)then
  (Zw d).bind λk=>
  Y (k.1,Z,())
 else
  let c:=a.2.2.2.1.set b.toNat (tT (gK a.2.2.2.1 b) e)
  Y ((tP a (c.set b.toNat (tO (gK c b) g.1)) h.1 i),La,())
def uK(f:Int)(b:Ze)(g:Qe)(h c:Ze)(a:Int):Oc Ze Bool:=
 (K7 b).bind λi=>
 let d:=(!i.1)||(K4 (a<0))
 Zh ((d=Z->(0<=a/\a<b.2.2.2.1)))<|
 bif d||(!(gK b.2.2.2.1 a).2.2.2.2.2.2.1)then
  Y (c,Z,())
 else
  gG c.2.2.2.1 a<|
  dr 1 (
   (QP (gK c.2.2.2.1 a).2.1 g).bind λe=>
   QL f b h c a e.1 e.2.1
  )
def QK(a:Ze)(b:Int)(e:Qe):Oc Ze Bool:=qu ((Zw a).bind λc=>dr 1 ((Z4 a.2.2.2.1 b).bind λd=>uK b a e X9 c.1 d.1)) ((Zw a).bind λc=>(Z4 a.2.2.2.1 b).bind λd=>uK b a e X9 c.1 d.1)
def lw(c:Ba)(d:List Zj)(a b:Int):Nat:=(a-b).toNat+1
def fh:Nat->Ba->List Zj->Int->Int->Oa Ba|0,_,_,_,_=>Lb|N+1,b,c,e,a=>cond (K4 (a<e)) (Zh (0<=a/\a<c)<|(ao (c.getD a.toNat Qc)).bind λf=>cond (!f.1) (Y (([]:Ba),())) ((fJ (c.getD a.toNat Qc)).bind λd=>Zh (b+d.1<=Jv)<|cond (K4 (((b++d.1):Int)>(400:Int))) (Y (([]:Ba),())) (fh N (b++d.1) c e (K3.wrap (a+1))))) (Y (b,()))
def zG(a:List Zj):Oa Ba:=fh (lw ([]:Ba) a a (0:Int)) ([]:Ba) a a (0:Int)
def cv(d a:Ze)(b:List Zj):Option ((Ba×Int×Ze×Unit)×(Unit)):=cond ((b:Int)==(0:Int)) (Y (([],(-1:Int),a,()),())) (Zh (a.2.2.2.2.2.2.2.2.2.2.2.2.2.2.2.1+([(a.2.2.2.2.2.2.2.2.2.2.2.2.2.2.1,b,())]).length<=Qp)<|(zG b).bind λc=>Y ((c.1,K3.wrap ((K3.wrap (a.2.2.2.2.2.2.2.2.2.2.2.2.2.2.1+1))-1),(a.1,a.2.1,a.2.2.1,a.2.2.2.1,a.2.2.2.2.1,a.2.2.2.2.2.1,a.2.2.2.2.2.2.1,a.2.2.2.2.2.2.2.1,a.2.2.2.2.2.2.2.2.1,a.2.2.2.2.2.2.2.2.2.1,a.2.2.2.2.2.2.2.2.2.2.1,a.2.2.2.2.2.2.2.2.2.2.2.1,a.2.2.2.2.2.2.2.2.2.2.2.2.1,a.2.2.2.2.2.2.2.2.2.2.2.2.2.1,K3.wrap (a.2.2.2.2.2.2.2.2.2.2.2.2.2.2.1+1),a.2.2.2.2.2.2.2.2.2.2.2.2.2.2.2.1++([(a.2.2.2.2.2.2.2.2.2.2.2.2.2.2.1,b,())]),a.2.2.2.2.2.2.2.2.2.2.2.2.2.2.2.2),()),()))
def iP(c d:Ze)(a:List Zj)(e:List Int)(f b:Int):Nat:=((200:Int)-b).toNat+1+0*a
def aE:Nat->Ze->Ze->List Zj->List Int->Int->Int->Option ((Ba×Int×Ze×Unit)×(Unit))|0,_,_,_,_,_,_=>Lb|N+1,e,a,d,f,h,i=>cond (K4 (i<(200:Int))) ((WT a f).bind λl=>(yY l.1 a.2.2.2.2.2.2.2.2.2.2.2.2.2.1).bind λb=>cond (K4 (b.1<(0:Int))) (cv e a d) ((KU a b.1 h).bind λg=>cond (!g.2.1) ((Z4 a.2.2.2.1 b.1).bind λc=>gG a.2.2.2.1 c.1<|(xm (gK a.2.2.2.1 c.1).2.2.1).bind λm=>(xm a.2.2.2.2.1).bind λn=>Zh (f+([b.1])<=Qp)<|aE N e (a.1,a.2.1,a.2.2.1,a.2.2.2.1.set c.1.toNat (tO (gK a.2.2.2.1 c.1) m.1),n.1,a.2.2.2.2.2) d (f++([b.1])) h (K3.wrap (i+1))) ((QK a b.1 g.1).bind λj=>cond (!j.2.1) (cv e a d) ((mA b.1 g.1).bind λk=>Zh (d+([k.1])<=Qp)<|(mA b.1 g.1).bind λo=>(oX o.1).bind λp=>aE N e j.1 (d++([k.1])) f (K3.wrap (h-p.1)) (K3.wrap (i+1)))))) (cv e a d)
def iO(c d:Ze)(e:List Zj)(f:List Int)(g:Int)(h:List Zj)(a b:Int):Nat:=(a-b).toNat+1
def V9:Nat->Ze->Ze->List Zj->List Int->Int->List Zj->Int->Int->Option ((Ba×Int×Ze×Unit)×(Unit))|0,_,_,_,_,_,_,_,_=>Lb|N+1,e,f,c,g,d,b,h,a=>cond (K4 (a<h)) (Zh (0<=a/\a<b)<|(oX (b.getD a.toNat Qc)).bind λi=>cond (K4 (i.1<=d)) (Zh (c+([(b.getD a.toNat Qc)])<=Qp)<|(xl f (b.getD a.toNat Qc)).bind λj=>V9 N e j.1 (c++([(b.getD a.toNat Qc)])) g (K3.wrap (d-i.1)) b h (K3.wrap (a+1))) (V9 N e f c g d b h (K3.wrap (a+1)))) (aE (iP e f c g d (0:Int)) e f c g d (0:Int))
def ji(a:Ze)(c:Int):Option ((Ba×Int×Ze×Unit)×(Unit)):=(Zw a).bind λd=>(Jl a).bind λe=>(gH (!e.1) (Z1 c 1 400)).bind λf=>cond (((!e.1)||(!f.1))||(a.2.2.2.2.2.2.2.2.2.2.2.2.2.2.1==1000000)) (Y (([],(-1:Int),d.1,()),())) ((rt a).bind λb=>V9 (iO X9 d.1 ([]:List Zj) ([]:List Int) c b.1 b.1 (0:Int)) X9 d.1 ([]:List Zj) ([]:List Int) c b.1 b.1 (0:Int))
def z9(c:Ba)(d a e b:Int):Nat:=(a-b).toNat+1
def lv:Nat->Ba->Int->Int->Int->Int->Od Int Int Bool|0,_,_,_,_,_=>Lb|N+1,c,a,d,e,b=>cond (K4 (b<d)) (Zh (0<=(8:Int))<|Zh (0<=(K3.wrap (a+b))/\(K3.wrap (a+b))<c)<|lv N c a d (bits .or .i64 (K3.wrap (e*2^ (min (8:Int).toNat K3.bits))) (K3.wrap ((c.getD (K3.wrap (a+b)).toNat 0).toNat:Int))) (K3.wrap (b+1))) (Y (e,K3.wrap (a+d),La,()))
def Yr(b:Ba)(a:Int):Od Int Int Bool:=
 (Z1 a 0 (K3.wrap ((b:Int)-1))).bind λf=>
 bif !f.1 then
  Y (0,0,Z,())
 else
  gG b a<|
  Zh (0<=(6:Int))<|
  let d:=((b.getD a.toNat 0).toNat:Int).fdiv (2^ (min (6:Int).toNat Ld.bits))
  Zh (0<=d)<|
  let c:=K3.wrap (1*2^ (min d.toNat K3.bits))
  bif K4 ((K3.wrap (b-a))<c)then
   Y (0,0,Z,())
  else
   gG b a<|
   let e:=K3.wrap (bits .and .u8 ((b.getD a.toNat 0).toNat:Int) 63)
   lv (z9 b a c e (1:Int)) b a c e (1:Int)
def cA(d:Ba)(a:Int)(f c:Zj)(b:Int)(e:Bool):Od Zj Int Bool:=cond ((!e)||(K4 (b>(K3.wrap (d-a))))) (Y (Qc,0,Z,())) (Zh (0<=a/\a<=(K3.wrap (a+b))/\(K3.wrap (a+b))<=d)<|some ((tD c ((d.drop a.toNat).take ((K3.wrap (a+b)).toNat-a.toNat))),K3.wrap (a+b),La,()))
def Wb(a:Ba)(b h:Int)(c d:Zj)(i:Int)(f:Bool):Od Zj Int Bool:=
 bif !f then
  Y (Qc,0,Z,())
 else
  let g:=K3.wrap (a-b)
  bif(bits .and .i64 h 2)==2 then
   (Yr a b).bind λe=>
   bif !e.2.2.1 then
    cA a 0 c d g Z
   else
    cA a e.2.1 c d e.1 La
  else
   cA a b c d g f
def sj(b:Ba)(f a:Int):Od Zj Int Bool:=(Yr b f).bind λc=>cond (!c.2.2.1) (cond (Z&&((bits .and .i64 a 4)==4)) ((Yr b 0).bind λd=>cond (!d.2.2.1) (Wb b 0 a Qc (8,0,0,[],(bits .and .i64 a 1)==1,0,0,0,Z,()) 0 Z) (Wb b d.2.1 a Qc (8,0,d.1,[],(bits .and .i64 a 1)==1,0,0,0,Z,()) 0 La)) (Wb b 0 a Qc (8,0,0,[],(bits .and .i64 a 1)==1,0,0,0,Z,()) 0 Z)) (cond (La&&((bits .and .i64 a 4)==4)) ((Yr b c.2.1).bind λe=>cond (!e.2.2.1) (Wb b 0 a Qc (8,c.1,0,[],(bits .and .i64 a 1)==1,0,0,0,Z,()) 0 Z) (Wb b e.2.1 a Qc (8,c.1,e.1,[],(bits .and .i64 a 1)==1,0,0,0,Z,()) 0 La)) (Wb b c.2.1 a Qc (8,c.1,0,[],(bits .and .i64 a 1)==1,0,0,0,Z,()) 0 La))
def Xn(d a:Zj)(b:Int)(c:Bool):Od Zj Int Bool:=Y (a,b,c,())
def dD(g:Ba)(h:Int)(d:Zj)(c:Int)(a:Zj)(i:Int)(j k:Bool):Od Zj Int Bool:=
 bif k then
  Zh ((2:Int)≠0)<|
  (jx ((Lc c (2:Int))==1)).bind λl=>
  let b:Zj:=(K3.wrap (a.1-l.1),a.2.1,a.2.2.1,a.2.2.2.1,a.2.2.2.2.1,a.2.2.2.2.2.1,a.2.2.2.2.2.2.1,a.2.2.2.2.2.2.2.1,(Lc c (2:Int))==1,a.2.2.2.2.2.2.2.2.2)
  (Yr g (K3.wrap (h+1))).bind λe=>
  bif !e.2.2.1 then
   Xn d b 0 Z
  else
   Xn d (tF b e.1) e.2.1 La
 else
  (Z1 c 8 15).bind λm=>
  bif m.1 then
   (sj g (K3.wrap (h+1)) c).bind λf=>
   Y (f.1,f.2.1,f.2.2.1,())
  else
   Xn d a i j
def nh(d:Ba)(e:Int)(b:Zj)(f:Int)(a:Zj)(g:Int)(h:Bool)(c:Int)(k:Bool):Od Zj Int Bool:=cond k ((Yr d (K3.wrap (e+1))).bind λi=>cond (!i.2.2.1) (Xn b a 0 Z) ((Yr d i.2.1).bind λj=>cond (!j.2.2.1) (Xn b (a.1,i.1,a.2.2) 0 Z) (Xn b (a.1,i.1,a.2.2.1,a.2.2.2.1,a.2.2.2.2.1,a.2.2.2.2.2.1,j.1,a.2.2.2.2.2.2.2) j.2.1 La))) (cond (c==18) (dD d e b f a g h (c==18)) (cond (c==19) (dD d e b f a g h (c==19)) (cond (c==22) (dD d e b f a g h (c==22)) (dD d e b f a g h (c==23)))))
def ng(d:Ba)(e:Int)(c:Zj)(g:Int)(a:Zj)(h:Int)(i:Bool)(b:Int)(j:Bool):Od Zj Int Bool:=cond j ((Yr d (K3.wrap (e+1))).bind λf=>cond (!f.2.2.1) (Xn c a 0 Z) (Xn c (tF a f.1) f.2.1 La)) (cond (b==17) (nh d e c g a h i b (b==17)) (nh d e c g a h i b (b==21)))
def Za2(b:Ba)(c:Int):Od Zj Int Bool:=
 (Z1 c 0 (K3.wrap ((b:Int)-1))).bind λi=>
 bif !i.1 then
  Y (Qc,0,Z,())
 else
  gG b c<|
  let a:=K3.wrap ((b.getD c.toNat 0).toNat:Int)
  bif a==4 then
   (Yr b (K3.wrap (c+1))).bind λd=>
   bif !d.2.2.1 then
    Xn Qc (a,0,0,[],Z,0,0,0,Z,()) 0 Z
   else
    (Yr b d.2.1).bind λe=>
    bif !e.2.2.1 then
     Xn Qc (a,d.1,0,[],Z,0,0,0,Z,()) 0 Z
    else
     (Yr b e.2.1).bind λg=>
     bif !g.2.2.1 then
      Xn Qc (a,d.1,0,[],Z,e.1,0,0,Z,()) 0 Z
     else
      Xn Qc (a,d.1,0,[],Z,e.1,0,g.1,Z,()) g.2.1 La
  else
   bif a==5 then
    (Yr b (K3.wrap (c+1))).bind λf=>
    bif !f.2.2.1 then
     Xn Qc (a,0,0,[],Z,0,0,0,Z,()) 0 Z
    else
     (Yr b f.2.1).bind λh=>
     bif !h.2.2.1 then
      Xn Qc (a,f.1,0,[],Z,0,0,0,Z,()) 0 Z
     else
      Xn Qc (a,f.1,0,[],Z,h.1,0,0,Z,()) h.2.1 La
   else
    bif a==16 then
     ng b c Qc a (a,0,0,[],Z,0,0,0,Z,()) 0 Z a (a==16)
    else
     ng b c Qc a (a,0,0,[],Z,0,0,0,Z,()) 0 Z a (a==20)
def xg(b:Ba)(c:Int):Od Zj Int Bool:=(Za2 b c).bind λa=>(gH (!a.2.2.1) (ao a.1)).bind λd=>cond ((!a.2.2.1)||(!d.1)) (Y (Qc,0,Z,())) (Y (a.1,a.2.1,La,()))
def vo(a:Ba)(c:List Zj)(b:Int):Nat:=(a-b).toNat+1
def bR:Nat->Ba->List Zj->Int->Oc (List Zj) Bool|0,_,_,_=>Lb|N+1,a,c,b=>cond (K4 (b<(a:Int))) (gG a b<|cond (((a.getD b.toNat 0).toNat:Int)==(0:Int)) (bR N a c (K3.wrap (b+1))) ((xg a b).bind λd=>cond (!d.2.2.1) (Y (([]:List Zj),Z,())) (Zh (c+([d.1])<=Qp)<|bR N a (c++([d.1])) d.2.1))) ((Z1 a (1:Int) (400:Int)).bind λe=>Y (c,e.1,()))
def zF(a:Ba):Oc (List Zj) Bool:=bR (vo a ([]:List Zj) (0:Int)) a ([]:List Zj) (0:Int)
def vm(b:Ze)(c:Int):Oa Ze:=(Zw b).bind λa=>(cond (b.2.2.2.2.2.2.2.2.2.2.2.2.2.2.2.2.2.1==0) (Z1 c 1 255) (Y (Z,()))).bind λd=>cond ((b.2.2.2.2.2.2.2.2.2.2.2.2.2.2.2.2.2.1==0)&&d.1) (Y ((tJ a.1 c),())) (Y (a.1,()))
def kg(a:Int):Oa Int:=(cd a).bind λb=>cond (!b.1) (Y ((-1:Int),())) (Zh ((4:Int)≠0)<|some (K3.wrap (Lf a (4:Int)),()))
def gi(a:Qu)(b:Int):Od Qu Int Bool:=
 (rA a).bind λc=>
 (gH (!c.1) (Z1 b 0 (K3.wrap (a.2.1-1)))).bind λe=>
 bif(!c.1)||(!e.1)then
  Y (a,0,Z,())
 else
  let d:=max (K3.wrap ((K3.wrap (b+1))-a.2.2.1)) 0
  Y ((tO a (K3.wrap (a.2.2.1+d))),d,La,())
def xU(K1:(Ze×Int×Int×Unit)->Option ((Int×Unit)×(Ze×Unit)))(a:Ze)(b c:Int)(d:Zf):Option ((Int×Unit)×(Ze×Unit)):=(lB a.2.2.2.1 d).bind λe=>K1 ((tD a e.1),b,K3.wrap (c-1),())
def nX(b:Ze)(c a:Int):Nat:=(a-0).toNat+2
def dY:Nat->Ze->Int->Int->Option ((Int×Unit)×(Ze×Unit))
 |0,_,_,_=>Lb
 |N+1,a,c,b=>
  bif K4 (b>=(0:Int))then
   let d:Int:=K3.wrap (c- (K3.wrap ((4:Int)*b)))
   dr 1 (
    (vx a.1 d a.2.1 a.2.2.1).bind λe=>
    xU (λv=>dY N v.1 v.2.1 v.2.2.1) a c b e.1
   )
  else
   bif K4 ((a.2.2.2.1:Int)>(24:Int))then
    Y (((4:Int),()),a,())
   else
    Y (((0:Int),()),a,())
def js(a:Ze)(b c:Int):Option ((Int×Unit)×(Ze×Unit)):=dY (nX a b (K3.wrap (c-1))) a b (K3.wrap (c-1))
def Vd(c:Ze)(d:Int)(e:Qu)(b:Int)(f:Bool):Option ((Int×Unit)×(Ze×Unit)):=cond (((!f)||(b==0))||(K4 (b>(K3.wrap (24- (c.2.2.2.1:Int)))))) (Y ((4,()),c,())) ((Z5 c d).bind λa=>cond a.1 (js (tB a.2.1 e) d b) (js (tC a.2.1 e) d b))
def cN(e:Ze)(a:Int):Option ((Int×Unit)×(Ze×Unit)):=(Z4 e.2.2.2.1 a).bind λh=>cond (K4 (h.1>=0)) (Y ((0,()),e,())) ((Vl e.1 a).bind λi=>cond i.1 (Y ((5,()),e,())) (qu ((Z5 e a).bind λb=>cond b.1 (qu ((kg a).bind λf=>dr 1 ((gi b.2.1.2.2.2.2.2.2.2.2.2.1 f.1).bind λc=>Vd b.2.1 a c.1 c.2.1 c.2.2.1)) ((kg a).bind λf=>(gi b.2.1.2.2.2.2.2.2.2.2.2.1 f.1).bind λc=>Vd b.2.1 a c.1 c.2.1 c.2.2.1)) (qu ((kg a).bind λg=>dr 1 ((gi b.2.1.2.2.2.2.2.2.2.2.1 g.1).bind λd=>Vd b.2.1 a d.1 d.2.1 d.2.2.1)) ((kg a).bind λg=>(gi b.2.1.2.2.2.2.2.2.2.2.1 g.1).bind λd=>Vd b.2.1 a d.1 d.2.1 d.2.2.1))) ((Z5 e a).bind λb=>cond b.1 ((kg a).bind λf=>(gi b.2.1.2.2.2.2.2.2.2.2.2.1 f.1).bind λc=>Vd b.2.1 a c.1 c.2.1 c.2.2.1) ((kg a).bind λg=>(gi b.2.1.2.2.2.2.2.2.2.2.1 g.1).bind λd=>Vd b.2.1 a d.1 d.2.1 d.2.2.1))))
def yo(a:Zu)(b:Int):Oa Int:=(ca a).bind λc=>(cond (!c.1) (Y (Z,())) (Xq b)).bind λd=>cond ((!c.1)||(!d.1)) (Y (0,())) (Y (max (K3.wrap (b-a.2.2.2.1)) 0,()))
def rC(a:Ql):Oa Int:=(kv a).bind λb=>cond (!b.1) (Y (0,())) (Y (K3.wrap (a.2.2.1-a.2.2.2.1),()))
def xr(a:Zu)(b:Int)(c:Bool):Oa Bool:=Y (((a.2.2.1 !=(-1:Int))&&(K4 (b>a.2.2.1)))||(c&&(((a.2.2.1 !=(-1:Int))&&(b !=a.2.2.1))||(K4 (b<a.2.2.2.1)))),())
def s6(l:List Qd):Option (Unit×List Qd):=Z4p l
def xY(c d:List Qd)(a b:Int):Nat:=(a-b).toNat+1
def lF:Nat->List Qd->List Qd->Int->Int->Oa (List Qd)
 |0,_,_,_,_=>Lb
 |N+1,b,d,e,c=>
  bif K4 (c<e)then
   gG d c<|
   let a:Int:=K3.wrap ((b:Int)- (1:Int))
   Zh (((K4 (a>=(0:Int)))=La->(0<=a/\a<b)))<|
   (cond (K4 (a>=(0:Int))) (ii (gJ b a)) (Y ((0:Int),()))).bind λf=>
   bif(K4 (a>=(0:Int)))&&(f.1==(gJ d c).1)then
    gG b a<|
    Zh ((gJ b a).2.1+(gJ d c).2.1<=Jv)<|
    gG b a<|
    lF N (b.set a.toNat (tT (gJ b a) ((gJ b a).2.1++(gJ d c).2.1))) d e (K3.wrap (c+1))
   else
    Zh (b+([(gJ d c)])<=Qp)<|
    lF N (b++([(gJ d c)])) d e (K3.wrap (c+1))
  else
   Y (b,())
def ZA(a:List Qd):Oa (List Qd):=lF (xY ([]:List Qd) a a (0:Int)) ([]:List Qd) a a (0:Int)
def oY(c:Zv)(d:Int)(e:Ba)(f:Zv)(g h:Int)(i j:List Qd)(a b:Int):Nat:=(a-b).toNat+1
def fK:Nat->Zv->Int->Ba->Zv->Int->Int->List Qd->List Qd->Int->Int->Oa Zv
 |0,_,_,_,_,_,_,_,_,_,_=>Lb
 |N+1,h,c,g,m,a,e,f,d,i,b=>
  bif K4 (b<i)then
   gG d b<|
   bif K4 (a<(min (gJ d b).1 e))then
    let j:Int:=K3.wrap ((min (gJ d b).1 e)-c)
    Zh (0<=(K3.wrap (a-c))/\(K3.wrap (a-c))<=j/\j<=g)<|
    let k:List Qd:=[(a,(g.drop (K3.wrap (a-c)).toNat).take (j.toNat- (K3.wrap (a-c)).toNat),())]
    Zh (f+k<=Qp)<|
    Zh ((f++k).length+([(gJ d b)])<=Qp)<|
    (ii (gJ d b)).bind λo=>
    fK N h c g m (max a o.1) e ((f++k)++([(gJ d b)])) d i (K3.wrap (b+1))
   else
    Zh (f+([(gJ d b)])<=Qp)<|
    (ii (gJ d b)).bind λp=>
    fK N h c g m (max a p.1) e (f++([(gJ d b)])) d i (K3.wrap (b+1))
  else
   bif K4 (a<(min e e))then
    let l:Int:=K3.wrap ((min e e)-c)
    Zh (0<=(K3.wrap (a-c))/\(K3.wrap (a-c))<=l/\l<=g)<|
    let n:List Qd:=[(a,(g.drop (K3.wrap (a-c)).toNat).take (l.toNat- (K3.wrap (a-c)).toNat),())]
    Zh (f+n<=Qp)<|
    (s6 (f++n)).bind λq=>
    (ZA q.2).bind λr=>
    Y ((h.1,r.1,()),())
   else
    (s6 f).bind λs=>
    (ZA s.2).bind λt=>
    Y ((h.1,t.1,()),())
def zH(a:Zv)(b:Int)(c:Ba)(d:Zv)(e f:Int):Oa Zv:=fK (oY a b c d e f ([]:List Qd) a.2.1 a.2.1 (0:Int)) a b c d e f ([]:List Qd) a.2.1 a.2.1 (0:Int)
def yU(b:Zv)(a:Int)(c:Ba):Oa Zv:=
 (nZ b).bind λd=>
 bif((((!d.1)||(c==[]))||(K4 (a<0)))||(K4 (a>(K3.wrap (4611686018427387903- (c:Int))))))||(K4 ((K3.wrap (a+(c:Int)))<=b.1))then
  (ej b).bind λe=>
  Y (e.1,())
 else
  let f:=K3.wrap (a+(c:Int))
  dr 1 (
   zH b a c (0,[],()) (max a b.1) f
  )
def xW(b a:Zu):Oc Zu Int:=Y (a,0,())
def jt(d:Int)(e:Ba)(f c a:Zu):Oc Zu Int:=(yU f.2.1 d e).bind λb=>(cond (a.2.2.1 !=(-1:Int)) (yt b.1) (Y (0,()))).bind λg=>cond ((a.2.2.1 !=(-1:Int))&&(g.1==a.2.2.1)) (xW c (2,b.1,a.2.2)) (xW c (a.1,b.1,a.2.2))
def xn(b:Zu)(c:Int)(d:Ba)(f:Bool):Oc Zu Int:=
 (bG b).bind λa=>
 (ca b).bind λg=>
 bif((!g.1)||(K4 (c<0)))||(K4 (c>(K3.wrap (4611686018427387903- (d:Int)))))then
  Y (a.1,7,())
 else
  let e:=K3.wrap (c+(d:Int))
  (xr b e f).bind λh=>
  bif h.1 then
   Y (a.1,6,())
  else
   (lG b).bind λi=>
   bif !i.1 then
    Y (a.1,0,())
   else
    bif f then
     jt c d b qr (1,a.1.2.1,e,max b.2.2.2.1 e,a.1.2.2.2.2)
    else
     jt c d b qr (tD a.1 (max b.2.2.2.1 e))
def oc(a:Ql)(b:Int):Oc Ql Bool:=(kv a).bind λc=>(gH (!c.1) (Z1 b 0 (K3.wrap (a.2.2.1-a.2.2.2.1)))).bind λd=>cond ((!c.1)||(!d.1)) (Y (a,Z,())) (Y ((tD a (K3.wrap (a.2.2.2.1+b))),La,()))
def yR(h:Ze)(g:Zj):Oc Ze Int:=
 (K7 h).bind λm=>
 (gH (!m.1) (ao g)).bind λr=>
 bif((!m.1)||(!r.1))||(!(g.1==8))then
  (Zw h).bind λs=>
  Y (s.1,7,())
 else
  (Zw h).bind λn=>
  (iM n.1.1 g.2.1).bind λt=>
  bif !t.1 then
   (Zw h).bind λu=>
   Y (u.1,5,())
  else
   (cN n.1 g.2.1).bind λa=>
   bif a.1.1 !=0 then
    bif a.1.1 !=0 then
     (Zw h).bind λv=>
     Y (v.1,a.1.1,())
    else
     Y (a.2.1,0,())
   else
    (Z4 a.2.1.2.2.2.1 g.2.1).bind λf=>
    gG a.2.1.2.2.2.1 f.1<|
    (yo (gK a.2.1.2.2.2.1 f.1).2.2.2.1 (K3.wrap (g.2.2.1+(g.2.2.2.1:Int)))).bind λi=>
    (rC (gK a.2.1.2.2.2.1 f.1).2.2.2.2.1).bind λo=>
    (cond (K4 (i.1>o.1)) (Y (0,())) (rC a.2.1.2.2.2.2.2.1)).bind λw=>
    bif(K4 (i.1>o.1))||(K4 (i.1>w.1))then
     (Zw h).bind λx=>
     Y (x.1,3,())
    else
     dr 1 (
      (xn (gK a.2.1.2.2.2.1 f.1).2.2.2.1 g.2.2.1 g.2.2.2.1 g.2.2.2.2.1).bind λk=>
      bif k.2.1 !=0 then
       bif k.2.1 !=0 then
        (Zw h).bind λy=>
        Y (y.1,k.2.1,())
       else
        Y (a.2.1,0,())
      else
       (oc (gK a.2.1.2.2.2.1 f.1).2.2.2.2.1 i.1).bind λz=>
       let j:=a.2.1.2.2.2.1.set f.1.toNat (tG (gK a.2.1.2.2.2.1 f.1) z.1)
       (oc a.2.1.2.2.2.2.2.1 i.1).bind λp=>
       let d:=j.set f.1.toNat (tD (gK j f.1) k.1)
       (Z4 d g.2.1).bind λe=>
       gG d e.1<|
       (Vl a.2.1.1 g.2.1).bind λA=>
       let q:=A.1||(gK d e.1).2.2.2.2.2.2.2.2.2.2.2.2.2.1
       (gH q (J7 (gK d e.1))).bind λB=>
       bif q||(!B.1)then
        Y ((tQ a.2.1 d p.1),0,())
       else
        let C:=d.set e.1.toNat (tA (gK d e.1) La)
        Le (Z5 (tQ a.2.1 C p.1) g.2.1) λl=>
        bif l.1 then
         (Z5 l.2.1 g.2.1).bind λb=>
         bif b.1 then
          (Z0 b.2.1.2.2.2.2.2.2.2.2.2.1).bind λD=>
          let E:Ze:=(tB b.2.1 D.1)
          Y (E,0,())
         else
          (Z0 b.2.1.2.2.2.2.2.2.2.2.1).bind λF=>
          let G:Ze:=(tB b.2.1 F.1)
          Y (G,0,())
        else
         (Z5 l.2.1 g.2.1).bind λc=>
         bif c.1 then
          (Z0 c.2.1.2.2.2.2.2.2.2.2.2.1).bind λH=>
          let I:Ze:=(tC c.2.1 H.1)
          Y (I,0,())
         else
          (Z0 c.2.1.2.2.2.2.2.2.2.2.1).bind λJ=>
          let K:Ze:=(tC c.2.1 J.1)
          Y (K,0,())
     )
def uL(b:Zu)(e c:Int):Oc Zu Int:=(bG b).bind λa=>(ca b).bind λd=>(gH (!d.1) (Xq e)).bind λf=>(gH ((!d.1)||(!f.1)) (Xq c)).bind λg=>cond (((!d.1)||(!f.1))||(!g.1)) (Y (a.1,7,())) ((xr b c La).bind λh=>cond h.1 (Y (a.1,6,())) ((lG b).bind λi=>cond (!i.1) (Y (a.1,0,())) (Y ((4,(tT a.1.2.1 []),c,c,e,a.1.2.2.2.2.2),0,()))))
def xj(l:Ze)(i:Zj):Oc Ze Int:=
 (K7 l).bind λs=>
 (gH (!s.1) (ao i)).bind λz=>
 bif((!s.1)||(!z.1))||(!(i.1==4))then
  (Zw l).bind λA=>
  Y (A.1,7,())
 else
  (Zw l).bind λt=>
  (iM t.1.1 i.2.1).bind λB=>
  bif !B.1 then
   (Zw l).bind λC=>
   Y (C.1,5,())
  else
   (cN t.1 i.2.1).bind λa=>
   bif a.1.1 !=0 then
    bif a.1.1 !=0 then
     (Zw l).bind λD=>
     Y (D.1,a.1.1,())
    else
     Y (a.2.1,0,())
   else
    (Z4 a.2.1.2.2.2.1 i.2.1).bind λc=>
    gG a.2.1.2.2.2.1 c.1<|
    (yo (gK a.2.1.2.2.2.1 c.1).2.2.2.1 i.2.2.2.2.2.2.2.1).bind λn=>
    (rC (gK a.2.1.2.2.2.1 c.1).2.2.2.2.1).bind λu=>
    (cond (K4 (n.1>u.1)) (Y (0,())) (rC a.2.1.2.2.2.2.2.1)).bind λE=>
    bif(K4 (n.1>u.1))||(K4 (n.1>E.1))then
     (Zw l).bind λF=>
     Y (F.1,3,())
    else
     dr 1 (
      (uL (gK a.2.1.2.2.2.1 c.1).2.2.2.1 i.2.2.2.2.2.1 i.2.2.2.2.2.2.2.1).bind λo=>
      bif o.2.1 !=0 then
       bif o.2.1 !=0 then
        (Zw l).bind λG=>
        Y (G.1,o.2.1,())
       else
        Y (a.2.1,0,())
      else
       (oc (gK a.2.1.2.2.2.1 c.1).2.2.2.2.1 n.1).bind λH=>
       let m:=a.2.1.2.2.2.1.set c.1.toNat (tG (gK a.2.1.2.2.2.1 c.1) H.1)
       (oc a.2.1.2.2.2.2.2.1 n.1).bind λp=>
       let I:=(gK m c.1).2.2.2.1.1 !=4
       let b:=m.set c.1.toNat (tD (gK m c.1) o.1)
       bif(o.1.1==4)&&I then
        let v:=K3.wrap (i.2.2.2.2.2.2.2.1- (gK b c.1).2.2.2.2.1.2.2.2.2.1)
        (aG (gK b c.1).2.2.2.2.1 v).bind λJ=>
        let h:=b.set c.1.toNat (tG (gK b c.1) J.1)
        (aG p.1 v).bind λw=>
        (Z4 h i.2.1).bind λj=>
        gG h j.1<|
        (Vl a.2.1.1 i.2.1).bind λK=>
        let x:=K.1||(gK h j.1).2.2.2.2.2.2.2.2.2.2.2.2.2.1
        (gH x (J7 (gK h j.1))).bind λL=>
        bif x||(!L.1)then
         Y ((tQ a.2.1 h w.1),0,())
        else
         let M:=h.set j.1.toNat (tA (gK h j.1) La)
         Le (Z5 (tQ a.2.1 M w.1) i.2.1) λq=>
         bif q.1 then
          (Z5 q.2.1 i.2.1).bind λd=>
          bif d.1 then
           (Z0 d.2.1.2.2.2.2.2.2.2.2.2.1).bind λO=>
           let P:Ze:=(tB d.2.1 O.1)
           Y (P,0,())
          else
           (Z0 d.2.1.2.2.2.2.2.2.2.2.1).bind λQ=>
           let S:Ze:=(tB d.2.1 Q.1)
           Y (S,0,())
         else
          (Z5 q.2.1 i.2.1).bind λf=>
          bif f.1 then
           (Z0 f.2.1.2.2.2.2.2.2.2.2.2.1).bind λU=>
           let V:Ze:=(tC f.2.1 U.1)
           Y (V,0,())
          else
           (Z0 f.2.1.2.2.2.2.2.2.2.2.1).bind λW=>
           let X:Ze:=(tC f.2.1 W.1)
           Y (X,0,())
       else
        (Z4 b i.2.1).bind λk=>
        gG b k.1<|
        (Vl a.2.1.1 i.2.1).bind λaa=>
        let y:=aa.1||(gK b k.1).2.2.2.2.2.2.2.2.2.2.2.2.2.1
        (gH y (J7 (gK b k.1))).bind λab=>
        bif y||(!ab.1)then
         Y ((tQ a.2.1 b p.1),0,())
        else
         let ac:=b.set k.1.toNat (tA (gK b k.1) La)
         Le (Z5 (tQ a.2.1 ac p.1) i.2.1) λr=>
         bif r.1 then
          (Z5 r.2.1 i.2.1).bind λe=>
          bif e.1 then
           (Z0 e.2.1.2.2.2.2.2.2.2.2.2.1).bind λad=>
           let ae:Ze:=(tB e.2.1 ad.1)
           Y (ae,0,())
          else
           (Z0 e.2.1.2.2.2.2.2.2.2.2.1).bind λaf=>
           let ag:Ze:=(tB e.2.1 af.1)
           Y (ag,0,())
         else
          (Z5 r.2.1 i.2.1).bind λg=>
          bif g.1 then
           (Z0 g.2.1.2.2.2.2.2.2.2.2.2.1).bind λah=>
           let ai:Ze:=(tC g.2.1 ah.1)
           Y (ai,0,())
          else
           (Z0 g.2.1.2.2.2.2.2.2.2.2.1).bind λaj=>
           let ak:Ze:=(tC g.2.1 aj.1)
           Y (ak,0,())
     )
def xX(b:Int)(a d:Zk)(c:Q2):Oc Zk Bool:=Y ((4,c,[],[],[],a.2.2.2.2.2.2.2.1,0,a.2.2.2.2.2.2.2.1,b,()),La,())
def kC(a:Zk)(b:Int):Oc Zk Bool:=(bU a).bind λc=>(gH (!c.1) (Xq b)).bind λd=>cond ((!c.1)||(!d.1)) ((Wo a).bind λe=>Y (e.1,Z,())) (qu (Zh (0<=a.2.1.1/\a.2.1.1<=a.2.1.1/\a.2.1.1<=Qp)<|dr 1 (xX b a Yw (a.2.1.1,a.2.2.2.2.2.2.2.1,a.2.2.2.2.2.2.2.1,Lg a.2.1.1.toNat 0,()))) (Zh (0<=a.2.1.1/\a.2.1.1<=a.2.1.1/\a.2.1.1<=Qp)<|xX b a Yw (a.2.1.1,a.2.2.2.2.2.2.2.1,a.2.2.2.2.2.2.2.1,Lg a.2.1.1.toNat 0,())))
def yS(l:Ze)(i:Zj):Oc Ze Int:=
 (K7 l).bind λo=>
 (gH (!o.1) (ao i)).bind λt=>
 bif((!o.1)||(!t.1))||(!(i.1==5))then
  (Zw l).bind λu=>
  Y (u.1,7,())
 else
  (Zw l).bind λp=>
  (vl p.1.1 i.2.1).bind λv=>
  bif !v.1 then
   (Zw l).bind λw=>
   Y (w.1,5,())
  else
   (cN p.1 i.2.1).bind λa=>
   bif a.1.1 !=0 then
    bif a.1.1 !=0 then
     (Zw l).bind λx=>
     Y (x.1,a.1.1,())
    else
     Y (a.2.1,0,())
   else
    (Z4 a.2.1.2.2.2.1 i.2.1).bind λj=>
    gG a.2.1.2.2.2.1 j.1<|
    dr 1 (
     (kC (gK a.2.1.2.2.2.1 j.1).2.1 i.2.2.2.2.2.1).bind λq=>
     bif q.2.1 then
      let k:=a.2.1.2.2.2.1.set j.1.toNat (tT (gK a.2.1.2.2.2.1 j.1) q.1)
      let f:=k.set j.1.toNat (tC (gK k j.1) La)
      (Z4 f i.2.1).bind λg=>
      gG f g.1<|
      (Vl a.2.1.1 i.2.1).bind λy=>
      let r:=y.1||(gK f g.1).2.2.2.2.2.2.2.2.2.2.2.2.2.1
      (gH r (J7 (gK f g.1))).bind λz=>
      bif r||(!z.1)then
       Y ((tD a.2.1 f),0,())
      else
       let A:=f.set g.1.toNat (tA (gK f g.1) La)
       (Z5 (tD a.2.1 A) i.2.1).bind λm=>
       bif m.1 then
        (Z5 m.2.1 i.2.1).bind λb=>
        bif b.1 then
         (Z0 b.2.1.2.2.2.2.2.2.2.2.2.1).bind λB=>
         let C:Ze:=(tB b.2.1 B.1)
         Y (C,0,())
        else
         (Z0 b.2.1.2.2.2.2.2.2.2.2.1).bind λD=>
         let E:Ze:=(tB b.2.1 D.1)
         Y (E,0,())
       else
        (Z5 m.2.1 i.2.1).bind λd=>
        bif d.1 then
         (Z0 d.2.1.2.2.2.2.2.2.2.2.2.1).bind λF=>
         let G:Ze:=(tC d.2.1 F.1)
         Y (G,0,())
        else
         (Z0 d.2.1.2.2.2.2.2.2.2.2.1).bind λH=>
         let I:Ze:=(tC d.2.1 H.1)
         Y (I,0,())
     else
      (Z4 a.2.1.2.2.2.1 i.2.1).bind λh=>
      gG a.2.1.2.2.2.1 h.1<|
      (Vl a.2.1.1 i.2.1).bind λJ=>
      let s:=J.1||(gK a.2.1.2.2.2.1 h.1).2.2.2.2.2.2.2.2.2.2.2.2.2.1
      (gH s (J7 (gK a.2.1.2.2.2.1 h.1))).bind λK=>
      bif s||(!K.1)then
       Y (a.2.1,0,())
      else
       let L:=a.2.1.2.2.2.1.set h.1.toNat (tA (gK a.2.1.2.2.2.1 h.1) La)
       (Z5 (tD a.2.1 L) i.2.1).bind λn=>
       bif n.1 then
        (Z5 n.2.1 i.2.1).bind λc=>
        bif c.1 then
         (Z0 c.2.1.2.2.2.2.2.2.2.2.2.1).bind λM=>
         let O:Ze:=(tB c.2.1 M.1)
         Y (O,0,())
        else
         (Z0 c.2.1.2.2.2.2.2.2.2.2.1).bind λP=>
         let Q:Ze:=(tB c.2.1 P.1)
         Y (Q,0,())
       else
        (Z5 n.2.1 i.2.1).bind λe=>
        bif e.1 then
         (Z0 e.2.1.2.2.2.2.2.2.2.2.2.1).bind λS=>
         let U:Ze:=(tC e.2.1 S.1)
         Y (U,0,())
        else
         (Z0 e.2.1.2.2.2.2.2.2.2.2.1).bind λV=>
         let W:Ze:=(tC e.2.1 V.1)
         Y (W,0,())
    )
def sg(a:Qu)(b:Int):Oa Qu:=(dw a).bind λc=>cond ((c.1&&(K4 (b>a.1)))&&(K4 (b<=4611686018427387903))) (Y ((b,a.2.1,(-1:Int),a.2.2.2),())) (Y (a,()))
def se(a:dn)(b:Int):Oa dn:=(xk a).bind λc=>cond ((c.1&&(K4 (b>a.1)))&&(K4 (b<=1152921504606846976))) (Y ((b,a.2.1,(-1:Int),a.2.2.2),())) (Y (a,()))
def xi(e:Ze)(a:Zj):Oc Ze Int:=(K7 e).bind λh=>(gH (!h.1) (ao a)).bind λi=>cond (((!h.1)||(!i.1))||(!(((a.1 !=8)&&(a.1 !=4))&&(a.1 !=5)))) ((Zw e).bind λj=>Y (j.1,7,())) ((Zw e).bind λd=>cond (a.1==16) ((sg d.1.2.2.2.2.1 a.2.2.2.2.2.2.1).bind λk=>Y ((tG d.1 k.1),0,())) (cond (a.1==18) ((Jc d.1 a.2.2.2.2.2.2.2.2.1).bind λb=>cond b.1 ((se b.2.1.2.2.2.2.2.2.2.1 a.2.2.2.2.2.2.1).bind λl=>Y ((tL b.2.1 l.1),0,())) ((se b.2.1.2.2.2.2.2.2.1 a.2.2.2.2.2.2.1).bind λm=>Y ((tF b.2.1 m.1),0,()))) (cond (a.1==17) ((vl d.1.1 a.2.1).bind λn=>cond (!n.1) ((Zw e).bind λo=>Y (o.1,5,())) ((cN d.1 a.2.1).bind λc=>cond (c.1.1 !=0) (cond (c.1.1 !=0) ((Zw e).bind λp=>Y (p.1,c.1.1,())) (Y (c.2.1,0,()))) ((Z4 c.2.1.2.2.2.1 a.2.1).bind λf=>gG c.2.1.2.2.2.1 f.1<|(sg (gK c.2.1.2.2.2.1 f.1).2.2.1 a.2.2.2.2.2.2.1).bind λq=>Y ((tD c.2.1 (c.2.1.2.2.2.1.set f.1.toNat (tO (gK c.2.1.2.2.2.1 f.1) q.1))),0,())))) (cond (a.1==21) ((iM d.1.1 a.2.1).bind λr=>cond (!r.1) ((Zw e).bind λs=>Y (s.1,5,())) ((cN d.1 a.2.1).bind λg=>cond (g.1.1 !=0) ((Zw e).bind λt=>Y (t.1,g.1.1,())) (Y (g.2.1,0,())))) (Y (d.1,0,()))))))
def xh(b:Ze)(a:Zj):Oc Ze Int:=cond (a.1==8) ((yR b a).bind λc=>Y (c.1,c.2.1,())) (cond (a.1==4) ((xj b a).bind λd=>Y (d.1,d.2.1,())) (cond (a.1==5) ((yS b a).bind λe=>Y (e.1,e.2.1,())) ((xi b a).bind λf=>Y (f.1,f.2.1,()))))
def vr(c:Ze)(d:List Zj)(e:Ze)(a b:Int):Nat:=(a-b).toNat+1
def fj:Nat->Ze->List Zj->Ze->Int->Int->Oc Ze Int|0,_,_,_,_,_=>Lb|N+1,f,c,d,e,a=>cond (K4 (a<e)) (gG c a<|(xh d (gN c a)).bind λb=>cond (b.2.1 !=0) ((vm d b.2.1).bind λg=>Y (g.1,b.2.1,())) (fj N f c b.1 e (K3.wrap (a+1)))) (Y (d,(0:Int),()))
def rz(a:Ze)(e:Ba):Oc Ze Int:=(K7 a).bind λc=>(gH (!c.1) (ku a)).bind λf=>cond ((!c.1)||f.1) ((Zw a).bind λg=>Y (g.1,a.2.2.2.2.2.2.2.2.2.2.2.2.2.2.2.2.2.1,())) ((zF e).bind λb=>cond (!b.2.1) ((vm a 7).bind λh=>Y (h.1,7,())) ((Zw a).bind λd=>fj (vr X9 b.1 d.1 b.1 (0:Int)) X9 b.1 d.1 b.1 (0:Int)))
def oV(b:Zk):Oc Zk Bool:=(Wo b).bind λa=>(yr b).bind λc=>cond (!c.1) (Y (a.1,Z,())) (Y ((a.1.1,a.1.2.1,a.1.2.2.1,a.1.2.2.2.1,a.1.2.2.2.2.1,b.2.1.2.2.1,1,a.1.2.2.2.2.2.2.2),La,()))
def gC(c:Ze)(k:Int)(b:Ze×Unit):Oc Ze Bool:=
 (Z4 c.2.2.2.1 k).bind λa=>
 (Jl c).bind λg=>
 let d:=(!g.1)||(K4 (a.1<0))
 Zh ((d=Z->(Z=La->(0<=a.1/\a.1<c.2.2.2.1))))<|
 let e:=Z&&(!(gK c.2.2.2.1 a.1).2.2.2.2.2.2.2.1)
 Zh (((d||e)=Z->(La=La->(0<=a.1/\a.1<c.2.2.2.1))))<|
 let h:=La&&(!(gK c.2.2.2.1 a.1).2.2.2.2.2.2.1)
 bif(d||e)||h then
  Y (b.1,Z,())
 else
  gG b.1.2.2.2.1 a.1<|
  (oV (gK b.1.2.2.2.1 a.1).2.1).bind λf=>
  let i:=b.1.2.2.2.1.set a.1.toNat (tT (gK b.1.2.2.2.1 a.1) f.1)
  bif !f.2.1 then
   (Zw c).bind λj=>
   Y (j.1,Z,())
  else
   Y ((tD b.1 i),La,())
def uJ(c:Ze)(k:Int):Oc Ze Bool:=
 qu ((Zw c).bind λb=>dr 1 (gC c k b)) ((Zw c).bind λb=>gC c k b)
def gD(g:Ze)(j:Int)(G:Int)(f:Ze×Unit):Oc Ze Bool:=
 (Z4 g.2.2.2.1 j).bind λa=>
 (Jl g).bind λo=>
 let k:=(!o.1)||(K4 (a.1<0))
 Zh ((k=Z->(Z=La->(0<=a.1/\a.1<g.2.2.2.1))))<|
 let m:=Z&&(!(gK g.2.2.2.1 a.1).2.2.2.2.2.2.2.1)
 Zh (((k||m)=Z->(La=La->(0<=a.1/\a.1<g.2.2.2.1))))<|
 let p:=La&&(!(gK g.2.2.2.1 a.1).2.2.2.2.2.2.1)
 bif(k||m)||p then
  Y (f.1,Z,())
 else
  gG f.1.2.2.2.1 a.1<|
  dr 1 (
   (kC (gK f.1.2.2.2.1 a.1).2.1 G).bind λi=>
   let h:=f.1.2.2.2.1.set a.1.toNat (tT (gK f.1.2.2.2.1 a.1) i.1)
   let d:=h.set a.1.toNat (tC (gK h a.1) La)
   (Z4 d j).bind λe=>
   gG d e.1<|
   (Vl f.1.1 j).bind λq=>
   let n:=q.1||(gK d e.1).2.2.2.2.2.2.2.2.2.2.2.2.2.1
   (gH n (J7 (gK d e.1))).bind λr=>
   bif n||(!r.1)then
    bif !i.2.1 then
     (Zw g).bind λs=>
     Y (s.1,Z,())
    else
     Y ((tD f.1 d),La,())
   else
    let t:=d.set e.1.toNat (tA (gK d e.1) La)
    (Z5 (tD f.1 t) j).bind λl=>
    bif l.1 then
     (Z5 l.2.1 j).bind λb=>
     bif b.1 then
      (Z0 b.2.1.2.2.2.2.2.2.2.2.2.1).bind λu=>
      let v:Ze:=(tB b.2.1 u.1)
      bif !i.2.1 then
       (Zw g).bind λw=>
       Y (w.1,Z,())
      else
       Y (v,La,())
     else
      (Z0 b.2.1.2.2.2.2.2.2.2.2.1).bind λx=>
      let y:Ze:=(tB b.2.1 x.1)
      bif !i.2.1 then
       (Zw g).bind λz=>
       Y (z.1,Z,())
      else
       Y (y,La,())
    else
     (Z5 l.2.1 j).bind λc=>
     bif c.1 then
      (Z0 c.2.1.2.2.2.2.2.2.2.2.2.1).bind λA=>
      let B:Ze:=(tC c.2.1 A.1)
      bif !i.2.1 then
       (Zw g).bind λC=>
       Y (C.1,Z,())
      else
       Y (B,La,())
     else
      (Z0 c.2.1.2.2.2.2.2.2.2.2.1).bind λD=>
      let E:Ze:=(tC c.2.1 D.1)
      bif !i.2.1 then
       (Zw g).bind λF=>
       Y (F.1,Z,())
      else
       Y (E,La,())
  )
def xo(g:Ze)(j:Int)(G:Int):Oc Ze Bool:=
 qu ((Zw g).bind λf=>dr 1 (gD g j G f)) ((Zw g).bind λf=>gD g j G f)
def gE(e:Ze)(p i:Int)(b:Ze×Unit):Oc Ze Bool:=
 (Z4 e.2.2.2.1 p).bind λa=>
 (Jl e).bind λj=>
 let f:=(!j.1)||(K4 (a.1<0))
 Zh ((f=Z->(La=La->(0<=a.1/\a.1<e.2.2.2.1))))<|
 let g:=La&&(!(gK e.2.2.2.1 a.1).2.2.2.2.2.2.2.1)
 Zh (((f||g)=Z->(Z=La->(0<=a.1/\a.1<e.2.2.2.1))))<|
 let k:=Z&&(!(gK e.2.2.2.1 a.1).2.2.2.2.2.2.1)
 bif(f||g)||k then
  Y (b.1,Z,())
 else
  gG b.1.2.2.2.1 a.1<|
  (gH (gK b.1.2.2.2.1 a.1).2.2.2.2.2.2.2.2.2.2.2.1 (lG (gK b.1.2.2.2.1 a.1).2.2.2.1)).bind λl=>
  let h:=(gK b.1.2.2.2.1 a.1).2.2.2.2.2.2.2.2.2.2.2.1||(!l.1)
  (gH h (Xq i)).bind λm=>
  bif h||(!m.1)then
   (Zw e).bind λn=>
   Y (n.1,Z,())
  else
   let c:=b.1.2.2.2.1.set a.1.toNat (tM (gK b.1.2.2.2.1 a.1) La)
   let d:=c.set a.1.toNat (tN (gK c a.1) i)
   let o:=d.set a.1.toNat (tB (gK d a.1) La)
   Y ((tD b.1 o),La,())
def y6(e:Ze)(p i:Int):Oc Ze Bool:=
 qu ((Zw e).bind λb=>dr 1 (gE e p i b)) ((Zw e).bind λb=>gE e p i b)
def JF(s p:Ba):Oa (List Ba):=Zh (s.length<4294967281/\1<=p.length) (Y (Go.Lib.splitK p 0 (Go.Lib.count s p) s,()))
def Zg7(s p:Ba):Oa Ba:=Zh (p=[32]/\s.length<4294967281) (Y (Go.Lib.trimB s 32,()))
def vv(c d:Q7)(e:List Ba)(a b:Int):Nat:=(a-b).toNat+1
def J8:Nat->Q7->Q7->List Ba->Int->Int->Oa Q7
 |0,_,_,_,_,_=>Lb
 |N+1,c,f,d,e,b=>
  bif K4 (b<e)then
   gG d b<|
   (Zg7 (d.getD b.toNat ([]:Ba)) ([32]:Ba)).bind λa=>
   bif(a.1==([105]:Ba))||(a.1==([105,61,63,49]:Ba))then
    J8 N (tT c La) f d e (K3.wrap (b+1))
   else
    bif a.1==([105,61,63,48]:Ba)then
     J8 N (tT c Z) f d e (K3.wrap (b+1))
    else
     Zh ((((a.1:Int)==(3:Int))=La->(0<=(0:Int)/\(0:Int)<=(2:Int)/\(2:Int)<=a.1)))<|
     let g:Bool:=((a.1:Int)==(3:Int))&&(((a.1.drop (0:Int).toNat).take ((2:Int).toNat- (0:Int).toNat))==([117,61]:Ba))
     Zh ((g=La->(0<=(2:Int)/\(2:Int)<a.1)))<|
     let h:Bool:=g&&(K4 (((a.1.getD (2:Int).toNat 0).toNat:Int)>=(48:Int)))
     Zh ((h=La->(0<=(2:Int)/\(2:Int)<a.1)))<|
     bif h&&(K4 (((a.1.getD (2:Int).toNat 0).toNat:Int)<=(55:Int)))then
      Zh (0<=(2:Int)/\(2:Int)<a.1)<|
      J8 N (K3.wrap (Ld.wrap (((a.1.getD (2:Int).toNat 0).toNat:Int)- (48:Int))),c.2) f d e (K3.wrap (b+1))
     else
      J8 N c f d e (K3.wrap (b+1))
  else
   Y (c,())
def ft(d:Ba)(b c:Q7):Oa Q7:=(JF d ([44]:Ba)).bind λa=>J8 (vv b c a.1 a.1 (0:Int)) b c a.1 a.1 (0:Int)
def lz(a:Q7)(b:Ba):Oa Q7:=(mz a).bind λc=>cond (!c.1) (Le vp λd=>ft b d.1 (0,Z,())) (ft b a (0,Z,()))
def gF(c:Ze)(j:Int)(k:Ba)(b:Ze×Unit):Oc Ze Bool:=
 (Z4 c.2.2.2.1 j).bind λa=>
 (Jl c).bind λf=>
 let d:=(!f.1)||(K4 (a.1<0))
 Zh ((d=Z->(Z=La->(0<=a.1/\a.1<c.2.2.2.1))))<|
 let e:=Z&&(!(gK c.2.2.2.1 a.1).2.2.2.2.2.2.2.1)
 Zh (((d||e)=Z->(La=La->(0<=a.1/\a.1<c.2.2.2.1))))<|
 let g:=La&&(!(gK c.2.2.2.1 a.1).2.2.2.2.2.2.1)
 bif(d||e)||g then
  Y (b.1,Z,())
 else
  gG b.1.2.2.2.1 a.1<|
  (lz (gK b.1.2.2.2.1 a.1).2.2.2.2.2.1 k).bind λh=>
  let i:=b.1.2.2.2.1.set a.1.toNat (tR (gK b.1.2.2.2.1 a.1) h.1)
  Y ((tD b.1 i),La,())
def xp(c:Ze)(j:Int)(k:Ba):Oc Ze Bool:=
 qu ((Zw c).bind λb=>dr 1 (gF c j k b)) ((Zw c).bind λb=>gF c j k b)
def Za1(a:Z6)(b:Int):Oa Bool:=Y (a.1==b,())
def Xb(c:List Z6)(d:Int×Unit)(a b:Int):Nat:=(a-b).toNat+1
def Qw:Nat->List Z6->(Int×Unit)->Int->Int->Oa Int|0,_,_,_,_=>Lb|N+1,b,c,d,a=>cond (K4 (a<d)) (gG b a<|(Za1 (gL b a) c.1).bind λe=>cond e.1 (Y (a,())) (Qw N b c d (K3.wrap (a+1)))) (Y ((-1:Int),()))
def Yx(a:List Z6)(b:Int×Unit):Oa Int:=Qw (Xb a b a (0:Int)) a b a (0:Int)
def ph(a:Ze)(b:Int):Oa Int:=(Yx a.2.2.2.2.2.2.2.2.2.2.2.2.2.2.2.1 (b,())).bind λc=>Y (c.1,())
def aK(l:List Z6)(i j:Int):Oa ((List Z6)×Unit):=Qlz l i j
def y7(b e a:Ze)(i8:Int):Option ((Ze×List Zj×Bool×Unit)×(Unit)):=(Jl b).bind λc=>cond ((!c.1)||(K4 (i8<0))) (Y ((a,[],Z,()),())) (gG a.2.2.2.2.2.2.2.2.2.2.2.2.2.2.2.1 i8<|(aK a.2.2.2.2.2.2.2.2.2.2.2.2.2.2.2.1 i8 (K3.wrap (i8+1))).bind λd=>Y (((tH a d.1.1),(gL a.2.2.2.2.2.2.2.2.2.2.2.2.2.2.2.1 i8).2.1,La,()),()))
def QZ(a:Ze)(d:Int):Option ((Ze×List Zj×Bool×Unit)×(Unit)):=qu ((Zw a).bind λb=>dr 1 ((ph a d).bind λc=>y7 a X9 b.1 c.1)) ((Zw a).bind λb=>(ph a d).bind λc=>y7 a X9 b.1 c.1)
def QY(a:Zj):Oa Qe:=Y ((a.2.2.1,a.2.2.2.1,a.2.2.2.2.1,()),())
def YK(a:Int)(c d e:Q2)(b:Int):Nat:=(a-b).toNat+1
def oW:Nat->Int->Q2->Q2->Q2->Int->Oc Q2 Bool|0,_,_,_,_,_=>Lb|N+1,d,b,e,a,c=>cond (K4 (c<d)) (Zh (b.1≠0)<|Zh (0<=(Lc c b.1)/\(Lc c b.1)<a.2.2.2.1)<|oW N d b e (a.1,a.2.1,a.2.2.1,a.2.2.2.1.set (Lc c b.1).toNat (0:Int),a.2.2.2.2) (K3.wrap (c+1))) (Y ((a.1,d,a.2.2),La,()))
def yl(a:Q2)(b:Int):Oc Q2 Bool:=(kw a).bind λc=>(q8 a).bind λd=>(gH (!d.1) (Z1 b a.2.1 a.2.2.1)).bind λe=>cond ((!d.1)||(!e.1)) (Y (c.1,Z,())) (oW (YK b a Zfw c.1 a.2.1) b a Zfw c.1 a.2.1)
end Go.Proofs.YtahnlnkboamdmaaGreatDoor

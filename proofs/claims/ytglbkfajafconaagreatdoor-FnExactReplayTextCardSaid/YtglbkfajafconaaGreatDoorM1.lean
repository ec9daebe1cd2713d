/- No condition. -/
import Derived.Test.YtglbkfajafconaaGreatDoorRows
import Derived.Test.YtglbkfajafconaaGreatDoorAm4
import Derived.Test.YtglbkfajafconaaGreatDoorShelf
import Derived.Lib.AppendIntMem
import Derived.Lib.SplitLaws
import Derived.Lib.IndexMore
import Derived.Lib.Atoi
import Derived.Lib.AtoiBound
import Derived.Lib.Join
import Derived.Lib.ItoaNum
import Derived.Lib.ItoaLen
noncomputable section
set_option linter.all false
namespace Go.Proofs.YtglbkfajafconaaGreatDoor
open Go.Am
set_option maxRecDepth 100000
open Option renaming some→Y,none→Lc,bind→Lf
open Go renaming IntKind→Z
open IntKind renaming i64→K3,u8→Le
open Bool renaming false→K4,true→Lb
open Decidable renaming decide→La
open Int renaming tmod→Ld,tdiv→Lg
open List renaming replicate→Lh
open Go.Lib renaming cut→Li,atoi→Lj
noncomputable def K5{ρ α:Type}(a:List α)(i:Int)(z:α)(f:α->α)(k:List α->Option ρ):Option ρ:=Ze (0<=i/\i<a.length) (k (a.set i.toNat (f (a.getD i.toNat z))))
abbrev Oa(a:Type):Type:=Option (a×Unit)
abbrev Oc(a b:Type):Type:=Option (a×b×Unit)
abbrev Od(a b c:Type):Type:=Option (a×b×c×Unit)
abbrev Ba:Type:=List UInt8
abbrev tA{a b c d e g h i j k l m n o p:Type}(x:a×b×c×d×e×g×h×i×j×k×l×m×n×o×p)(v0:o):a×b×c×d×e×g×h×i×j×k×l×m×n×o×p:=(x.1,x.2.1,x.2.2.1,x.2.2.2.1,x.2.2.2.2.1,x.2.2.2.2.2.1,x.2.2.2.2.2.2.1,x.2.2.2.2.2.2.2.1,x.2.2.2.2.2.2.2.2.1,x.2.2.2.2.2.2.2.2.2.1,x.2.2.2.2.2.2.2.2.2.2.1,x.2.2.2.2.2.2.2.2.2.2.2.1,x.2.2.2.2.2.2.2.2.2.2.2.2.1,v0,x.2.2.2.2.2.2.2.2.2.2.2.2.2.2)
abbrev tB{a b c d e g h i j k l:Type}(x:a×b×c×d×e×g×h×i×j×k×l)(v0:k):a×b×c×d×e×g×h×i×j×k×l:=(x.1,x.2.1,x.2.2.1,x.2.2.2.1,x.2.2.2.2.1,x.2.2.2.2.2.1,x.2.2.2.2.2.2.1,x.2.2.2.2.2.2.2.1,x.2.2.2.2.2.2.2.2.1,v0,x.2.2.2.2.2.2.2.2.2.2)
abbrev tC{a b c d e g h i j k:Type}(x:a×b×c×d×e×g×h×i×j×k)(v0:j):a×b×c×d×e×g×h×i×j×k:=(x.1,x.2.1,x.2.2.1,x.2.2.2.1,x.2.2.2.2.1,x.2.2.2.2.2.1,x.2.2.2.2.2.2.1,x.2.2.2.2.2.2.2.1,v0,x.2.2.2.2.2.2.2.2.2)
abbrev tD{a b c d e:Type}(x:a×b×c×d×e)(v0:d):a×b×c×d×e:=(x.1,x.2.1,x.2.2.1,v0,x.2.2.2.2)
abbrev tE{a b c d e g h i j k l m:Type}(x:a×b×c×d×e×g×h×i×j×k×l×m)(v0:l):a×b×c×d×e×g×h×i×j×k×l×m:=(x.1,x.2.1,x.2.2.1,x.2.2.2.1,x.2.2.2.2.1,x.2.2.2.2.2.1,x.2.2.2.2.2.2.1,x.2.2.2.2.2.2.2.1,x.2.2.2.2.2.2.2.2.1,x.2.2.2.2.2.2.2.2.2.1,v0,x.2.2.2.2.2.2.2.2.2.2.2)
abbrev tG{a b c d e g h i:Type}(x:a×b×c×d×e×g×h×i)(v0:h):a×b×c×d×e×g×h×i:=(x.1,x.2.1,x.2.2.1,x.2.2.2.1,x.2.2.2.2.1,x.2.2.2.2.2.1,v0,x.2.2.2.2.2.2.2)
abbrev tH{a b c d e g:Type}(x:a×b×c×d×e×g)(v0:e):a×b×c×d×e×g:=(x.1,x.2.1,x.2.2.1,x.2.2.2.1,v0,x.2.2.2.2.2)
abbrev tJ{a b c d e g h i j k l m n o p q r:Type}(x:a×b×c×d×e×g×h×i×j×k×l×m×n×o×p×q×r)(v0:q):a×b×c×d×e×g×h×i×j×k×l×m×n×o×p×q×r:=(x.1,x.2.1,x.2.2.1,x.2.2.2.1,x.2.2.2.2.1,x.2.2.2.2.2.1,x.2.2.2.2.2.2.1,x.2.2.2.2.2.2.2.1,x.2.2.2.2.2.2.2.2.1,x.2.2.2.2.2.2.2.2.2.1,x.2.2.2.2.2.2.2.2.2.2.1,x.2.2.2.2.2.2.2.2.2.2.2.1,x.2.2.2.2.2.2.2.2.2.2.2.2.1,x.2.2.2.2.2.2.2.2.2.2.2.2.2.1,x.2.2.2.2.2.2.2.2.2.2.2.2.2.2.1,v0,x.2.2.2.2.2.2.2.2.2.2.2.2.2.2.2.2)
abbrev tK{a b c d e g h i j k l m n o p q r s u:Type}(x:a×b×c×d×e×g×h×i×j×k×l×m×n×o×p×q×r×s×u)(v0:s):a×b×c×d×e×g×h×i×j×k×l×m×n×o×p×q×r×s×u:=(x.1,x.2.1,x.2.2.1,x.2.2.2.1,x.2.2.2.2.1,x.2.2.2.2.2.1,x.2.2.2.2.2.2.1,x.2.2.2.2.2.2.2.1,x.2.2.2.2.2.2.2.2.1,x.2.2.2.2.2.2.2.2.2.1,x.2.2.2.2.2.2.2.2.2.2.1,x.2.2.2.2.2.2.2.2.2.2.2.1,x.2.2.2.2.2.2.2.2.2.2.2.2.1,x.2.2.2.2.2.2.2.2.2.2.2.2.2.1,x.2.2.2.2.2.2.2.2.2.2.2.2.2.2.1,x.2.2.2.2.2.2.2.2.2.2.2.2.2.2.2.1,x.2.2.2.2.2.2.2.2.2.2.2.2.2.2.2.2.1,v0,x.2.2.2.2.2.2.2.2.2.2.2.2.2.2.2.2.2.2)
abbrev tL{a b c d e g h i j k l m n o p q r s:Type}(x:a×b×c×d×e×g×h×i×j×k×l×m×n×o×p×q×r×s)(v0:r):a×b×c×d×e×g×h×i×j×k×l×m×n×o×p×q×r×s:=(x.1,x.2.1,x.2.2.1,x.2.2.2.1,x.2.2.2.2.1,x.2.2.2.2.2.1,x.2.2.2.2.2.2.1,x.2.2.2.2.2.2.2.1,x.2.2.2.2.2.2.2.2.1,x.2.2.2.2.2.2.2.2.2.1,x.2.2.2.2.2.2.2.2.2.2.1,x.2.2.2.2.2.2.2.2.2.2.2.1,x.2.2.2.2.2.2.2.2.2.2.2.2.1,x.2.2.2.2.2.2.2.2.2.2.2.2.2.1,x.2.2.2.2.2.2.2.2.2.2.2.2.2.2.1,x.2.2.2.2.2.2.2.2.2.2.2.2.2.2.2.1,v0,x.2.2.2.2.2.2.2.2.2.2.2.2.2.2.2.2.2)
abbrev tM{a b c d e g h i j:Type}(x:a×b×c×d×e×g×h×i×j)(v0:i):a×b×c×d×e×g×h×i×j:=(x.1,x.2.1,x.2.2.1,x.2.2.2.1,x.2.2.2.2.1,x.2.2.2.2.2.1,x.2.2.2.2.2.2.1,v0,x.2.2.2.2.2.2.2.2)
abbrev tN{a b c d e g h i j k l m n:Type}(x:a×b×c×d×e×g×h×i×j×k×l×m×n)(v0:m):a×b×c×d×e×g×h×i×j×k×l×m×n:=(x.1,x.2.1,x.2.2.1,x.2.2.2.1,x.2.2.2.2.1,x.2.2.2.2.2.1,x.2.2.2.2.2.2.1,x.2.2.2.2.2.2.2.1,x.2.2.2.2.2.2.2.2.1,x.2.2.2.2.2.2.2.2.2.1,x.2.2.2.2.2.2.2.2.2.2.1,v0,x.2.2.2.2.2.2.2.2.2.2.2.2)
abbrev tO{a b c d e g h i j k l m n o:Type}(x:a×b×c×d×e×g×h×i×j×k×l×m×n×o)(v0:n):a×b×c×d×e×g×h×i×j×k×l×m×n×o:=(x.1,x.2.1,x.2.2.1,x.2.2.2.1,x.2.2.2.2.1,x.2.2.2.2.2.1,x.2.2.2.2.2.2.1,x.2.2.2.2.2.2.2.1,x.2.2.2.2.2.2.2.2.1,x.2.2.2.2.2.2.2.2.2.1,x.2.2.2.2.2.2.2.2.2.2.1,x.2.2.2.2.2.2.2.2.2.2.2.1,v0,x.2.2.2.2.2.2.2.2.2.2.2.2.2)
abbrev tP{a b c d:Type}(x:a×b×c×d)(v0:c):a×b×c×d:=(x.1,x.2.1,v0,x.2.2.2)
abbrev tQ{a b c d e g h i j k l m n o p:Type}(x:a×b×c×d×e×g×h×i×j×k×l×m×n×o×p)(v0:d)(v1:e)(v2:o):a×b×c×d×e×g×h×i×j×k×l×m×n×o×p:=(x.1,x.2.1,x.2.2.1,v0,v1,x.2.2.2.2.2.1,x.2.2.2.2.2.2.1,x.2.2.2.2.2.2.2.1,x.2.2.2.2.2.2.2.2.1,x.2.2.2.2.2.2.2.2.2.1,x.2.2.2.2.2.2.2.2.2.2.1,x.2.2.2.2.2.2.2.2.2.2.2.1,x.2.2.2.2.2.2.2.2.2.2.2.2.1,v2,x.2.2.2.2.2.2.2.2.2.2.2.2.2.2)
abbrev tR{a b c d e g h:Type}(x:a×b×c×d×e×g×h)(v0:d)(v1:g):a×b×c×d×e×g×h:=(x.1,x.2.1,x.2.2.1,v0,x.2.2.2.2.1,v1,x.2.2.2.2.2.2)
abbrev tS{a b c d e g h i j k l m n o:Type}(x:a×b×c×d×e×g×h×i×j×k×l×m×n×o)(v0:k)(v1:n):a×b×c×d×e×g×h×i×j×k×l×m×n×o:=(x.1,x.2.1,x.2.2.1,x.2.2.2.1,x.2.2.2.2.1,x.2.2.2.2.2.1,x.2.2.2.2.2.2.1,x.2.2.2.2.2.2.2.1,x.2.2.2.2.2.2.2.2.1,v0,x.2.2.2.2.2.2.2.2.2.2.1,x.2.2.2.2.2.2.2.2.2.2.2.1,v1,x.2.2.2.2.2.2.2.2.2.2.2.2.2)
abbrev tT{a b c:Type}(x:a×b×c)(v0:b):a×b×c:=(x.1,v0,x.2.2)
abbrev tU{a b c d e g h:Type}(x:a×b×c×d×e×g×h)(v0:g):a×b×c×d×e×g×h:=(x.1,x.2.1,x.2.2.1,x.2.2.2.1,x.2.2.2.2.1,v0,x.2.2.2.2.2.2)
abbrev tV{a b c d e g h i j k l m n:Type}(x:a×b×c×d×e×g×h×i×j×k×l×m×n)(v0:j)(v1:m):a×b×c×d×e×g×h×i×j×k×l×m×n:=(x.1,x.2.1,x.2.2.1,x.2.2.2.1,x.2.2.2.2.1,x.2.2.2.2.2.1,x.2.2.2.2.2.2.1,x.2.2.2.2.2.2.2.1,v0,x.2.2.2.2.2.2.2.2.2.1,x.2.2.2.2.2.2.2.2.2.2.1,v1,x.2.2.2.2.2.2.2.2.2.2.2.2)
abbrev tW{a b c d e g h i j k:Type}(x:a×b×c×d×e×g×h×i×j×k)(v0:b)(v1:j):a×b×c×d×e×g×h×i×j×k:=(x.1,v0,x.2.2.1,x.2.2.2.1,x.2.2.2.2.1,x.2.2.2.2.2.1,x.2.2.2.2.2.2.1,x.2.2.2.2.2.2.2.1,v1,x.2.2.2.2.2.2.2.2.2)
abbrev tX{a b c d e g h i j k l m:Type}(x:a×b×c×d×e×g×h×i×j×k×l×m)(v0:g)(v1:l):a×b×c×d×e×g×h×i×j×k×l×m:=(x.1,x.2.1,x.2.2.1,x.2.2.2.1,x.2.2.2.2.1,v0,x.2.2.2.2.2.2.1,x.2.2.2.2.2.2.2.1,x.2.2.2.2.2.2.2.2.1,x.2.2.2.2.2.2.2.2.2.1,v1,x.2.2.2.2.2.2.2.2.2.2.2)
abbrev Y6:Ty:=.pair (.int .i64) (.pair (.bool) (.unit))
abbrev Qz:Type:=Int×Bool×Unit
abbrev bI:Ty:=.pair (.int .i64) (.pair (.str) (.unit))
abbrev Z6:Type:=Int×Ba×Unit
def Qr:Z6:=((0:Int),([]:Ba),())
abbrev Zw:Ty:=.pair (.int .i64) (.pair (.int .i64) (.unit))
abbrev Zi:Type:=Int×Int×Unit
def Z3:Zi:=((0:Int),(0:Int),())
abbrev gg:Ty:=.pair (.int .i64) Zw
abbrev aP:Type:=Int×Zi
def KL:aP:=((0:Int),(0:Int),(0:Int),())
abbrev Y1:Ty:=.pair (.int .i64) (.pair (.str) (.pair (.bool) (.unit)))
abbrev Qj:Type:=Int×Ba×Bool×Unit
def iu:Qj:=((0:Int),([]:Ba),K4,())
abbrev Q7:Ty:=.pair (.int .i64) gg
abbrev Qq:Type:=Int×aP
def Hh:Qq:=((0:Int),(0:Int),(0:Int),(0:Int),())
abbrev Q8:Ty:=.pair (.int .i64) (.pair (.int .i64) bI)
abbrev Z4:Type:=Int×Int×Z6
def mi:Z4:=((0:Int),(0:Int),(0:Int),([]:Ba),())
abbrev Qm:Ty:=.pair (.int .i64) (.pair Y6 (.unit))
abbrev Zp:Type:=Int×Qz×Unit
def Qo:Zp:=((0:Int),((0:Int),K4,()),())
abbrev Xi:Ty:=.pair (.int .i64) (.pair (.slice 152 bI) (.unit))
abbrev Zx:Type:=Int×List Z6×Unit
def H8:Zx:=((0:Int),([]:List Z6),())
abbrev Ku:Ty:=.pair (.int .i64) (.pair (.int .i64) (.pair (.int .i64) (.pair (.slice 3 (.int .i64)) (.unit))))
abbrev Q9:Type:=Int×Int×Int×List Int×Unit
def HG:Q9:=((0:Int),(0:Int),(0:Int),([]:List Int),())
abbrev Kk:Ty:=.pair (.int .i64) (.pair (.int .i64) Q7)
abbrev Qp:Type:=Int×Int×Qq
def U7:Qp:=((0:Int),(0:Int),(0:Int),(0:Int),(0:Int),(0:Int),())
abbrev cR:Ty:=.pair (.int .i64) (.pair (.int .i64) Kk)
abbrev av:Type:=Int×Int×Qp
abbrev Zt:Ty:=.pair (.int .i64) (.pair (.int .i64) (.pair (.int .i64) (.pair (.str) (.pair (.bool) (.pair (.int .i64) (.pair (.int .i64) Y6))))))
abbrev Zj:Type:=Int×Int×Int×Ba×Bool×Int×Int×Qz
def Z9:Zj:=((0:Int),(0:Int),(0:Int),([]:Ba),K4,(0:Int),(0:Int),(0:Int),K4,())
abbrev Qh:Ty:=.pair (.int .i64) (.pair Xi gg)
abbrev Zz:Type:=Int×Zx×aP
def qq:Zz:=((0:Int),((0:Int),([]:List Z6),()),(0:Int),(0:Int),(0:Int),())
abbrev Yk:Ty:=.pair (.int .i64) (.pair (.slice 154 Zt) (.unit))
abbrev Qa:Type:=Int×List Zj×Unit
def Xq:Qa:=((0:Int),([]:List Zj),())
abbrev Zv:Ty:=.pair (.int .i64) (.pair Ku (.pair (.slice 150 Zw) (.pair (.slice 150 Zw) (.pair (.slice 150 Zw) Q7))))
abbrev Zn:Type:=Int×Q9×List Zi×List Zi×List Zi×Qq
def Jn:Zn:=((0:Int),((0:Int),(0:Int),(0:Int),([]:List Int),()),([]:List Zi),([]:List Zi),([]:List Zi),(0:Int),(0:Int),(0:Int),(0:Int),())
abbrev Z1:Ty:=.pair (.int .i64) (.pair Zv (.pair Q7 (.pair Qh (.pair Kk (.pair Y6 (.pair (.bool) (.pair (.bool) (.pair (.bool) (.pair (.bool) (.pair (.bool) (.pair (.bool) Y6)))))))))))
abbrev Zh:Type:=Int×Zn×Qq×Zz×Qp×Qz×Bool×Bool×Bool×Bool×Bool×Bool×Qz
def Zc:Zh:=((0:Int),((0:Int),((0:Int),(0:Int),(0:Int),([]:List Int),()),([]:List Zi),([]:List Zi),([]:List Zi),(0:Int),(0:Int),(0:Int),(0:Int),()),((0:Int),(0:Int),(0:Int),(0:Int),()),((0:Int),((0:Int),([]:List Z6),()),(0:Int),(0:Int),(0:Int),()),((0:Int),(0:Int),(0:Int),(0:Int),(0:Int),(0:Int),()),((0:Int),K4,()),K4,K4,K4,K4,K4,K4,(0:Int),K4,())
abbrev Zq:Ty:=.pair (.bool) (.pair cR (.pair cR (.pair (.slice 96 Z1) (.pair Q7 (.pair Kk (.pair gg (.pair gg (.pair Q7 (.pair Q7 (.pair (.bool) (.pair (.bool) (.pair (.bool) (.pair (.int .i64) (.pair (.int .i64) (.pair (.slice 100 Yk) Zw)))))))))))))))
abbrev Zf:Type:=Bool×av×av×List Zh×Qq×Qp×aP×aP×Qq×Qq×Bool×Bool×Bool×Int×Int×List Qa×Zi
def ZaN:=Int×Int×(List Qa)×Zi
instance:CoeOut Zf ZaN:=⟨(·.2.2.2.2.2.2.2.2.2.2.2.2.2)⟩
def Zbz:=Bool×Bool×Bool×Bool×Bool×Bool×Qz
instance:CoeOut Zh Zbz:=⟨(·.2.2.2.2.2.2)⟩
def Id:=List Zh
instance:CoeOut Zf Id:=⟨(·.2.2.2.1)⟩
def ZbA:=aP×Qq×Qq×Bool×Bool×Bool×Int×Int×(List Qa)×Zi
instance:CoeOut Zf ZbA:=⟨(·.2.2.2.2.2.2.2)⟩
def Zby:=aP
instance:CoeOut Zn Zby:=⟨(·.2.2.2.2.2.2)⟩
def Zbb:=Int×Qz
instance:CoeOut Zj Zbb:=⟨(·.2.2.2.2.2.2)⟩
def Zbc:=aP×Qq×Qq×Bool×Bool×Bool×Int×Int×(List Qa)×Zi
instance:CoeOut (Bool×Zf×Unit) Zbc:=⟨(·.2.1.2.2.2.2.2.2.2)⟩
def ZaX:=Bool×Bool×Qz
instance:CoeOut Zh ZaX:=⟨(·.2.2.2.2.2.2.2.2.2.2)⟩
def Fn:=Qp
instance:CoeOut Zh Fn:=⟨(·.2.2.2.2.1)⟩
def Zbv:=Qp×aP×aP×Qq×Qq×Bool×Bool×Bool×Int×Int×(List Qa)×Zi
instance:CoeOut Zf Zbv:=⟨(·.2.2.2.2.2)⟩
def Fd:=Zz
instance:CoeOut Zh Fd:=⟨(·.2.2.2.1)⟩
def ZaT:=(List Qa)×Zi
instance:CoeOut Zf ZaT:=⟨(·.2.2.2.2.2.2.2.2.2.2.2.2.2.2.2)⟩
def IO:=Ba
instance:CoeOut Zj IO:=⟨(·.2.2.2.1)⟩
def Zbw:=(List Zi)×Qq
instance:CoeOut Zn Zbw:=⟨(·.2.2.2.2)⟩
def ZaV:=Qq
instance:CoeOut Zh ZaV:=⟨(·.2.1.2.2.2.2.2)⟩
def Zad:=Int
instance:CoeOut Zn Zad:=⟨(·.2.1.2.2.1)⟩
def ZaZ:=Qq×Bool×Bool×Bool×Int×Int×(List Qa)×Zi
instance:CoeOut Zf ZaZ:=⟨(·.2.2.2.2.2.2.2.2.2)⟩
def Zah:=Qq
instance:CoeOut Zf Zah:=⟨(·.2.2.2.2.1)⟩
def Zap:=Int
instance:CoeOut Zj Zap:=⟨(·.2.2.2.2.2.1)⟩
def Zaz:=Qz
instance:CoeOut Zh Zaz:=⟨(·.2.2.2.2.2.1)⟩
def SW:=List Int
instance:CoeOut Q9 SW:=⟨(·.2.2.2.1)⟩
def Zae:=List Zi
instance:CoeOut Zn Zae:=⟨(·.2.2.2.1)⟩
def Zal:=Int
instance:CoeOut Zn Zal:=⟨(·.2.2.2.2.2.2.2.1)⟩
def ZaE:=Bool×Bool×Bool×Bool×Qz
instance:CoeOut Zh ZaE:=⟨(·.2.2.2.2.2.2.2.2)⟩
def ZaA:=Bool
instance:CoeOut Zj ZaA:=⟨(·.2.2.2.2.2.2.2.2.1)⟩
def Zas:=Bool
instance:CoeOut Zj Zas:=⟨(·.2.2.2.2.1)⟩
def Zam:=Int
instance:CoeOut Zn Zam:=⟨(·.2.2.2.2.2.1)⟩
def ZaK:=List Zh
instance:CoeOut ((Int×Unit)×Zf×Unit) ZaK:=⟨(·.2.1.2.2.2.1)⟩
def Zaj:=Ba
instance:CoeOut Z4 Zaj:=⟨(·.2.2.2.1)⟩
def Zao:=Bool
instance:CoeOut Zh Zao:=⟨(·.2.2.2.2.2.2.2.1)⟩
def Zar:=aP
instance:CoeOut Zf Zar:=⟨(·.2.2.2.2.2.2.1)⟩
def ZaP:=Qq×Qp×aP×aP×Qq×Qq×Bool×Bool×Bool×Int×Int×(List Qa)×Zi
instance:CoeOut (Bool×Zf×Unit) ZaP:=⟨(·.2.1.2.2.2.2)⟩
def ZaG:=Int
instance:CoeOut Zf ZaG:=⟨(·.2.2.2.2.2.2.2.2.2.2.2.2.2.2.2.2.2.1)⟩
def Zax:=Int
instance:CoeOut Zj Zax:=⟨(·.2.2.2.2.2.2.2.1)⟩
def Zay:=Qq
instance:CoeOut Zf Zay:=⟨(·.2.2.2.2.2.2.2.2.1)⟩
def ZaH:=Int
instance:CoeOut Zz ZaH:=⟨(·.2.2.2.2.1)⟩
def ZaJ:=List Zh
instance:CoeOut (Zf×Unit) ZaJ:=⟨(·.1.2.2.2.1)⟩
def Zag:=List Zi
instance:CoeOut Zn Zag:=⟨(·.2.2.2.2.1)⟩
def LE:=Qq
instance:CoeOut Zh LE:=⟨(·.2.2.1)⟩
def Zaw:=Qz
instance:CoeOut Zh Zaw:=⟨(·.2.2.2.2.2.2.2.2.2.2.2.2)⟩
def ZaL:=Int
instance:CoeOut Qp ZaL:=⟨(·.2.2.2.2.1)⟩
def Zaf:=Int
instance:CoeOut Zn Zaf:=⟨(·.2.2.2.2.2.2.1)⟩
def ZaQ:=Int
instance:CoeOut Zn ZaQ:=⟨(·.2.2.2.2.2.2.2.2.1)⟩
def Zac:=List Qa
instance:CoeOut Zf Zac:=⟨(·.2.2.2.2.2.2.2.2.2.2.2.2.2.2.2.1)⟩
def ZaB:=Bool×Bool×Int×Int×(List Qa)×Zi
instance:CoeOut Zf ZaB:=⟨(·.2.2.2.2.2.2.2.2.2.2.2)⟩
def Zai:=Qp
instance:CoeOut Zf Zai:=⟨(·.2.2.2.2.2.1)⟩
def ZaU:=Qq
instance:CoeOut (Bool×Zf×Unit) ZaU:=⟨(·.2.1.2.2.2.2.2.2.2.2.2.1)⟩
def Zau:=Int
instance:CoeOut Zz Zau:=⟨(·.2.2.2.1)⟩
def ZaF:=(List Zi)×(List Zi)×(List Zi)×Qq
instance:CoeOut Zh ZaF:=⟨(·.2.1.2.2)⟩
def Zbt:=Qq×Qq×Bool×Bool×Bool×Int×Int×(List Qa)×Zi
instance:CoeOut (((List Zj)×Unit)×Zf×Unit) Zbt:=⟨(·.2.1.2.2.2.2.2.2.2.2)⟩
def Zak:=Bool
instance:CoeOut Zh Zak:=⟨(·.2.2.2.2.2.2.1)⟩
def Zbq:=Bool×Bool×Bool×Bool×Bool×Bool×Qz
instance:CoeOut (Zh×Bool×Unit) Zbq:=⟨(·.1.2.2.2.2.2.2)⟩
def ZaY:=aP
instance:CoeOut Zh ZaY:=⟨(·.2.2.2.2.1.2.2.2)⟩
def ZaW:=aP
instance:CoeOut av ZaW:=⟨(·.2.2.2.2.2)⟩
def ZaC:=Int
instance:CoeOut Qq ZaC:=⟨(·.2.2.2.1)⟩
def Zba:=Int
instance:CoeOut Zh Zba:=⟨(·.2.1.2.2.2.2.2.2.2.1)⟩
def Zbu:=Int
instance:CoeOut Zf Zbu:=⟨(·.2.1.2.2.2.2.2.2.2.1)⟩
def Zan:=Int
instance:CoeOut Zj Zan:=⟨(·.2.2.2.2.2.2.1)⟩
def ZaI:=Int
instance:CoeOut Zf ZaI:=⟨(·.2.2.2.2.2.2.2.2.2.2.2.2.2.2.1)⟩
def ZaD:=Int
instance:CoeOut Qp ZaD:=⟨(·.2.2.2.1)⟩
def LT:=Int
instance:CoeOut Zj LT:=⟨(·.2.2.1)⟩
def ZaR:=Q9
instance:CoeOut Zh ZaR:=⟨(·.2.1.2.1)⟩
def ZaO:=Qq
instance:CoeOut (Bool×Zf×Unit) ZaO:=⟨(·.2.1.2.2.2.2.2.2.2.2.1)⟩
def ZaM:=Bool
instance:CoeOut Zh ZaM:=⟨(·.2.2.2.2.2.2.2.2.2.2.2.1)⟩
def Or:=Int
instance:CoeOut Zz Or:=⟨(·.2.2.1)⟩
def ST:=List Zi
instance:CoeOut Zn ST:=⟨(·.2.2.1)⟩
def Zbg:=Zi
instance:CoeOut Zh Zbg:=⟨(·.2.2.2.1.2.2.2)⟩
def Zaq:=aP
instance:CoeOut Zf Zaq:=⟨(·.2.2.2.2.2.2.2.1)⟩
def ZaS:=Bool
instance:CoeOut Zh ZaS:=⟨(·.2.2.2.2.2.2.2.2.2.1)⟩
def Zat:=Int
instance:CoeOut Zh Zat:=⟨(·.2.2.2.1.1)⟩
def Zbr:=Int
instance:CoeOut Qp Zbr:=⟨(·.2.2.2.2.2.1)⟩
def Zab:=Int
instance:CoeOut Q9 Zab:=⟨(·.2.2.1)⟩
def Zbs:=Int×Ba×Int×Unit
instance:CoeOut (Int×Ba×Zx×Zx×Zx×(List Zi)×Int×Ba×Int×Unit) Zbs:=⟨(·.2.2.2.2.2.2)⟩
def Zav:=Qq
instance:CoeOut Zf Zav:=⟨(·.2.2.2.2.2.2.2.2.2.1)⟩
def Zbm:=Int
instance:CoeOut (Zf×Zf×(List Zj)×Zi) Zbm:=⟨(·.2.2.2.2.1)⟩
def Xl:Zf:=(K4,((0:Int),(0:Int),(0:Int),(0:Int),(0:Int),(0:Int),(0:Int),(0:Int),()),((0:Int),(0:Int),(0:Int),(0:Int),(0:Int),(0:Int),(0:Int),(0:Int),()),([]:List Zh),((0:Int),(0:Int),(0:Int),(0:Int),()),((0:Int),(0:Int),(0:Int),(0:Int),(0:Int),(0:Int),()),((0:Int),(0:Int),(0:Int),()),((0:Int),(0:Int),(0:Int),()),((0:Int),(0:Int),(0:Int),(0:Int),()),((0:Int),(0:Int),(0:Int),(0:Int),()),K4,K4,K4,(0:Int),(0:Int),([]:List Qa),(0:Int),(0:Int),())
abbrev gG(c:Bool)(k:Oa Bool):Oa Bool:=cond c (Y (K4,())) k
abbrev gH{β:Type}(n i:Int)(k:Option β):Option β:=Ze (0<=i/\i<n) k
abbrev gI(l:List Qa)(i:Int):Qa:=l.getD i.toNat Xq
abbrev gJ(l:List Zh)(i:Int):Zh:=l.getD i.toNat Zc
abbrev gK(l:List Zi)(i:Int):Zi:=l.getD i.toNat Z3
abbrev gL(l:List Z6)(i:Int):Z6:=l.getD i.toNat Qr
abbrev gM(l:List Zp)(i:Int):Zp:=l.getD i.toNat Qo
abbrev gN(l:List Zj)(i:Int):Zj:=l.getD i.toNat Z9
def Ve(a:av):Oa av:=Y ((a.1,a.2.1,a.2.2.1,a.2.2.2.1,a.2.2.2.2.1,(a:ZaW).1,(a:ZaW).2.1,(a:ZaW).2.2.1,()),())
def dE(a:Int):Oa Bool:=Y (((La (a>(0:Int)))&&(La (a<=(64:Int))))&&((bits .and .i64 a (K3.wrap (a-1)))==0),())
def Z8(a b c:Int):Oa Bool:=Y ((La (a>=b))&&(La (a<=c)),())
def a9(a:av):Oa Bool:=(dE a.1).bind λb=>(cond b.1 (Z8 a.2.2.1 (1:Int) (4096:Int)) (Y (K4,()))).bind λd=>(cond (b.1&&d.1) (Z8 a.2.1 (1:Int) a.2.2.1) (Y (K4,()))).bind λf=>(cond ((b.1&&d.1)&&f.1) (Z8 a.2.2.2.2.1 (1:Int) (4096:Int)) (Y (K4,()))).bind λi=>let c:Bool:=((b.1&&d.1)&&f.1)&&i.1;(cond c (Z8 a.2.2.2.1 (1:Int) a.2.2.2.2.1) (Y (K4,()))).bind λe=>(cond (c&&e.1) (Z8 (a:ZaW).1 (0:Int) (1000:Int)) (Y (K4,()))).bind λg=>(cond ((c&&e.1)&&g.1) (Z8 (a:ZaW).2.1 (0:Int) (1000:Int)) (Y (K4,()))).bind λj=>let h:Bool:=((c&&e.1)&&g.1)&&j.1;(cond h (Z8 (a:ZaW).2.2.1 (1:Int) (1000:Int)) (Y (K4,()))).bind λk=>Y (h&&k.1,())
def Q0(a:Int):Oa Bool:=(Z8 a (0:Int) (4611686018427387903:Int)).bind λb=>Y (b.1,())
def ig(a:Int):Oc Qq Bool:=(Q0 a).bind λb=>cond (!b.1) (Y (Hh,K4,())) (Y ((a,(0:Int),(-1:Int),(-1:Int),()),Lb,()))
def ii(a b:Int):Oc Qp Bool:=(Z8 b (1:Int) (4096:Int)).bind λc=>(cond (!c.1) (Y (K4,())) (Z8 a (1:Int) b)).bind λd=>cond ((!c.1)||(!d.1)) (Y (U7,K4,())) (Y ((a,b,a,KL),Lb,()))
def JG(a:Int):Oc aP Bool:=(Z8 a (0:Int) (1152921504606846976:Int)).bind λb=>cond (!b.1) (Y (KL,K4,())) (Y ((a,(0:Int),(-1:Int),()),Lb,()))
def JF(a:Int):Oc Qq Bool:=(Z8 a (0:Int) (1000:Int)).bind λb=>cond (!b.1) (Y (Hh,K4,())) (Y ((a,a,(0:Int),(0:Int),()),Lb,()))
def xq(d:Bool)(a b:av):Oc Zf Bool:=(a9 a).bind λc=>(gG (!c.1) (a9 b)).bind λe=>cond ((!c.1)||(!e.1)) (Y (Xl,K4,())) ((ig b.2.2.2.1).bind λf=>(ii a.2.2.2.1 a.2.2.2.2.1).bind λg=>(JG (b:ZaW).1).bind λh=>(JG (b:ZaW).2.1).bind λi=>(JF (a:ZaW).1).bind λj=>(JF (a:ZaW).2.1).bind λk=>Y ((d,a,b,([]:List Zh),f.1,g.1,h.1,i.1,j.1,k.1,K4,K4,K4,(-1:Int),(0:Int),([]:List Qa),(0:Int),(0:Int),()),Lb,()))
def lN(K1:(Ba×Int×List Ba×Ba×Int×Unit)->Oa (List Ba))(a:Ba)(b:Int)(c:List Ba)(d:Ba)(e:Int):Oa (List Ba):=K1 (a,b,c,d,K3.wrap (e+1),())
def oK(a:Ba)(c:Int)(d:List Ba)(e:Ba)(b:Int):Nat:=((a.length:Int)-b).toNat+1
def dA:Nat->Ba->Int->List Ba->Ba->Int->Oa (List Ba)|0,_,_,_,_,_=>Lc|N+1,b,e,d,c,a=>bif La (a<(b.length:Int))then gH b a<|bif((b.getD a.toNat 0).toNat:Int)==e then Ze (d.length+([c]).length<=Qg)<|lN (λv=>dA N v.1 v.2.1 v.2.2.1 v.2.2.2.1 v.2.2.2.2.1) b e (d++([c])) ([]:Ba) a else Ze (0<=a/\a<=(K3.wrap (a+1))/\(K3.wrap (a+1))<=b.length)<|let f:Ba:=(b.drop a.toNat).take ((K3.wrap (a+1)).toNat-a.toNat);Ze (c.length+f.length<=Ym)<|lN (λv=>dA N v.1 v.2.1 v.2.2.1 v.2.2.2.1 v.2.2.2.2.1) b e d (c++f) a else Ze (d.length+([c]).length<=Qg)<|Y (d++([c]),())
def wi(a:Ba)(b:Int):Oa (List Ba):=dA (oK a b ([]:List Ba) ([]:Ba) (0:Int)) a b ([]:List Ba) ([]:Ba) (0:Int)
def nN(a:Ba)(b:Int):Nat:=((a.length:Int)-b).toNat+1
def mO:Nat->Ba->Int->Oc Ba Ba|0,_,_=>Lc|N+1,a,b=>bif La (b<(a.length:Int))then Ze (0<=b/\b<a.length)<|bif((a.getD b.toNat 0).toNat:Int)==(32:Int)then jj (Ze (0<=(0:Int)/\(0:Int)<=b/\b<=a.length)<|let c:Ba:=(a.drop (0:Int).toNat).take (b.toNat- (0:Int).toNat);Ze (0<=(K3.wrap (b+1))/\(K3.wrap (b+1))<=(a.length:Int)/\(a.length:Int)<=a.length)<|let d:Ba:=(a.drop (K3.wrap (b+1)).toNat).take ((a.length:Int).toNat- (K3.wrap (b+1)).toNat);Y (c,d,()) ) (Ze (0<=(K3.wrap (b+1))/\(K3.wrap (b+1))<=(a.length:Int)/\(a.length:Int)<=a.length)<|let d:Ba:=(a.drop (K3.wrap (b+1)).toNat).take ((a.length:Int).toNat- (K3.wrap (b+1)).toNat);Ze (0<=(0:Int)/\(0:Int)<=b/\b<=a.length)<|let c:Ba:=(a.drop (0:Int).toNat).take (b.toNat- (0:Int).toNat);Y (c,d,()) ) else mO N a (K3.wrap (b+1)) else Y (a,([]:Ba),())
def XV(a:Ba):Oc Ba Ba:=mO (nN a (0:Int)) a (0:Int)
def lC(a:Int):Oa Ba:=(Z8 a (1:Int) (12:Int)).bind λc=>bif !c.1 then Y (([]:Ba),()) else let b:List Ba:=[([111,112,101,110]:Ba),([119,114,105,116,101]:Ba),([102,105,110,105,115,104]:Ba),([114,101,97,100]:Ba),([114,101,115,101,116]:Ba),([115,116,111,112]:Ba),([112,114,105,111,114,105,116,121]:Ba),([101,109,105,116]:Ba),([97,99,107]:Ba),([108,111,115,101]:Ba),([112,97,121,108,111,97,100]:Ba),([116,105,109,101]:Ba)];Ze (0<=(K3.wrap (a-1))/\(K3.wrap (a-1))<b.length)<|Y (b.getD (K3.wrap (a-1)).toNat ([]:Ba),())
def iU(K1:(Int×Ba×Bool×Unit)->Oa Ba)(c:Int)(a:Ba)(d:Bool)(e:Int):Oa Ba:=let b:Ba:=Xf ([(Le.wrap (K3.wrap ((48:Int)+e)))]);Ze (b.length+a.length<=Ym)<|Ze ((10:Int)≠0)<|K1 (K3.wrap (Lg c (10:Int)),b++a,d,())
def rx(a:Int)(b:Ba)(c:Bool):Nat:=1048577+(a.toNat-a.toNat)
def aZ:Nat->Int->Ba->Bool->Oa Ba|0,_,_,_=>Lc|N+1,a,b,c=>cond (a !=0) (Ze ((10:Int)≠0)<|cond (La ((Ld a (10:Int))<0)) (iU (λv=>aZ N v.1 v.2.1 v.2.2.1) a b c (K3.wrap (0- (Ld a (10:Int))))) (iU (λv=>aZ N v.1 v.2.1 v.2.2.1) a b c (Ld a (10:Int)))) (cond c (Ze (([45]:Ba).length+b.length<=Ym)<|some (([45]:Ba)++b,())) (Y (b,())))
def J5(a:Int):Oa Ba:=cond (a==0) (Y (([48]:Ba),())) (aZ (rx a ([]:Ba) (La (a<(0:Int)))) a ([]:Ba) (La (a<(0:Int))))
def qf(K1:(Ba×Int×Int×Int×Unit)->Oc Int Bool)(a:Ba)(b c d:Int):Oc Int Bool:=K1 (a,b,c,K3.wrap (d+1),())
def aE(a:Ba)(b d:Int):Oc Int Bool:=let c:Bool:=(La (d>(9:Int)))||(La ((a.length:Int)>(10:Int)));(cond c (Y (([]:Ba),())) (J5 b)).bind λe=>bif c||(!(e.1==a))then Y ((0:Int),K4,()) else Y (b,Lb,())
def um(a:Ba)(c d b:Int):Nat:=((a.length:Int)-b).toNat+1
def kR:Nat->Ba->Int->Int->Int->Oc Int Bool|0,_,_,_,_=>Lc|N+1,a,c,d,b=>bif(La (b<(a.length:Int)))&&(La (b<(11:Int)))then gH a b<|let e:Bool:=La (((a.getD b.toNat 0).toNat:Int)>=(48:Int));Ze ((e=Lb->(0<=b/\b<a.length)))<|bif e&&(La (((a.getD b.toNat 0).toNat:Int)<=(57:Int)))then gH a b<|qf (λv=>kR N v.1 v.2.1 v.2.2.1 v.2.2.2.1) a (K3.wrap ((K3.wrap (c*10))+(K3.wrap (Le.wrap (((a.getD b.toNat 0).toNat:Int)- (48:Int)))))) (K3.wrap (d+1)) b else qf (λv=>kR N v.1 v.2.1 v.2.2.1 v.2.2.2.1) a c d b else Ze (((La ((a.length:Int)>(0:Int)))=Lb->(0<=(0:Int)/\(0:Int)<a.length)))<|bif(La ((a.length:Int)>(0:Int)))&&(((a.getD (0:Int).toNat 0).toNat:Int)==(45:Int))then aE a (K3.wrap (0-c)) d else aE a c d
def oe(a:Ba):Oc Int Bool:=kR (um a (0:Int) (0:Int) (0:Int)) a (0:Int) (0:Int) (0:Int)
def qx(b:Ba):Oa Int:=(oe b).bind λa=>cond (!a.2.1) (Y ((-1:Int),())) (Y (a.1,()))
def mM(b d a:Z4)(c:Bool):Oa Z4:=cond c (Y ((a.1,b.2.1,b.2.2.1,a.2.2.2),())) (Y ((a.1,a.2.1,b.2.2.1,a.2.2.2),()))
def sr(b d a:Z4)(c:Int)(e:Bool):Oa Z4:=cond e (Y ((a.1,b.2.1,a.2.2.1,(b:Zaj),a.2.2.2.2),())) (cond (c==3) (Y ((a.1,b.2.1,a.2.2),())) (cond (c==4) (mM b d a (c==4)) (cond (c==5) (mM b d a (c==5)) (mM b d a (c==6)))))
def sq(c d a:Z4)(b:Int)(e:Bool):Oa Z4:=cond e (Y ((a.1,a.2.1,a.2.2.1,(c:Zaj),a.2.2.2.2),())) (cond (b==2) (sr c d a b (b==2)) (sr c d a b (b==7)))
def XU(a:Z4):Oa Z4:=cond (a.1==1) (sq a mi (a.1,(0:Int),(0:Int),([]:Ba),()) a.1 (a.1==1)) (sq a mi (a.1,(0:Int),(0:Int),([]:Ba),()) a.1 (a.1==11))
def qo(a:Ba)(b:Int):Nat:=((a.length:Int)-b).toNat+1
def fO:Nat->Ba->Int->Oa Bool|0,_,_=>Lc|N+1,b,a=>bif La (a<(b.length:Int))then gH b a<|let c:Bool:=La (((b.getD a.toNat 0).toNat:Int)<(97:Int));Ze ((c=K4->(0<=a/\a<b.length)))<|bif c||(La (((b.getD a.toNat 0).toNat:Int)>(122:Int)))then Y (K4,()) else fO N b (K3.wrap (a+1)) else(Z8 (b.length:Int) (1:Int) (40:Int)).bind λd=>Y (d.1,())
def zd(a:Ba):Oa Bool:=fO (qo a (0:Int)) a (0:Int)
def mg(a:Ba)(b:Int):Nat:=((a.length:Int)-b).toNat+1
def cN:Nat->Ba->Int->Oa Bool|0,_,_=>Lc|N+1,b,a=>bif La (a<(b.length:Int))then gH b a<|let c:Bool:=La (((b.getD a.toNat 0).toNat:Int)<(32:Int));Ze ((c=K4->(0<=a/\a<b.length)))<|bif c||(La (((b.getD a.toNat 0).toNat:Int)>(126:Int)))then Y (K4,()) else cN N b (K3.wrap (a+1)) else(Z8 (b.length:Int) (1:Int) (40:Int)).bind λd=>Y (d.1,())
def uL(a:Ba):Oa Bool:=cN (mg a (0:Int)) a (0:Int)
def nJ(a:Int):Oa Int:=Ze (0<=a/\a<([48,49,50,51,52,53,54,55,56,57,97,98,99,100,101,102]:Ba).length)<|some (((([48,49,50,51,52,53,54,55,56,57,97,98,99,100,101,102]:Ba).getD a.toNat 0).toNat:Int),())
def rI(b a:Int):Nat:=((16:Int)-a).toNat+1
def bb:Nat->Int->Int->Oa Int|0,_,_=>Lc|N+1,b,a=>cond (La (a<(16:Int))) ((nJ a).bind λc=>cond (c.1==b) (Y (a,())) (bb N b (K3.wrap (a+1)))) (Y ((-1:Int),()))
def wk(a:Int):Oa Int:=bb (rI a (0:Int)) a (0:Int)
def ke(a:Ba)(c:List Int)(b:Int):Nat:=((a.length:Int)-b).toNat+1
def aY:Nat->Ba->List Int->Int->Oc Ba Bool|0,_,_,_=>Lc|N+1,b,c,a=>bif La (a<(b.length:Int))then Ze (0<=a/\a<b.length)<|(wk ((b.getD a.toNat 0).toNat:Int)).bind λd=>Ze (0<=(K3.wrap (a+1))/\(K3.wrap (a+1))<b.length)<|(wk ((b.getD (K3.wrap (a+1)).toNat 0).toNat:Int)).bind λe=>bif(La (d.1<(0:Int)))||(La (e.1<(0:Int)))then Y (([]:Ba),K4,()) else let f:List Int:=[(Le.wrap (K3.wrap ((K3.wrap ((16:Int)*d.1))+e.1)))];Ze (c.length+f.length<=Qg)<|aY N b (c++f) (K3.wrap (a+2)) else Y (Xf c,Lb,())
def lz(a:Ba):Oc Ba Bool:=Ze ((2:Int)≠0)<|cond ((Ld (a.length:Int) (2:Int))==1) (Y (([]:Ba),K4,())) (aY (ke a ([]:List Int) (0:Int)) a ([]:List Int) (0:Int))
def du(a:Z4):Oa Bool:=(lC a.1).bind λd=>(cond (d.1==([]:Ba)) (Y (mi,())) (XU a)).bind λf=>let b:Bool:=(d.1==([]:Ba))||(!(TR Q8 f.1 a));(gG b (Z8 a.2.1 (0:Int) (999999:Int))).bind λe=>(gG (b||(!e.1)) (Z8 a.2.2.1 (0:Int) (999999:Int))).bind λg=>bif(b||(!e.1))||(!g.1)then Y (K4,()) else bif a.1==1 then Y (((a:Zaj)==([98,105,100,105]:Ba))||((a:Zaj)==([117,110,105]:Ba)),()) else bif a.1==2 then(zd (a:Zaj)).bind λh=>Y (h.1,()) else bif a.1==7 then(uL (a:Zaj)).bind λi=>Y (i.1,()) else bif a.1==11 then(lz (a:Zaj)).bind λc=>(cond c.2.1 (Z8 (c.1.length:Int) (1:Int) (400:Int)) (Y (K4,()))).bind λj=>Y (c.2.1&&j.1,()) else Y (Lb,())
def dQ(b:Z4)(a:Ba)(g:Bool):Oa Ba:=bif g then Ze (a.length+([32]:Ba).length<=Ym)<|(J5 b.2.1).bind λc=>Ze ((a++([32]:Ba)).length+c.1.length<=Ym)<|Ze (((a++([32]:Ba))++c.1).length+([32]:Ba).length<=Ym)<|let d:Ba:=((a++([32]:Ba))++c.1)++([32]:Ba);(J5 b.2.2.1).bind λe=>Ze (d.length+e.1.length<=Ym)<|Y (d++e.1,()) else Ze (a.length+([32]:Ba).length<=Ym)<|(J5 b.2.2.1).bind λf=>Ze ((a++([32]:Ba)).length+f.1.length<=Ym)<|Y ((a++([32]:Ba))++f.1,())
def js(b:Z4)(a:Ba)(c:Int)(g:Bool):Oa Ba:=bif g then Ze (a.length+([32]:Ba).length<=Ym)<|(J5 b.2.1).bind λd=>Ze ((a++([32]:Ba)).length+d.1.length<=Ym)<|Ze (((a++([32]:Ba))++d.1).length+([32]:Ba).length<=Ym)<|let e:Ba:=((a++([32]:Ba))++d.1)++([32]:Ba);Ze (e.length+(b:Zaj).length<=Ym)<|Y (e++(b:Zaj),()) else bif c==3 then Ze (a.length+([32]:Ba).length<=Ym)<|(J5 b.2.1).bind λf=>Ze ((a++([32]:Ba)).length+f.1.length<=Ym)<|Y ((a++([32]:Ba))++f.1,()) else bif c==4 then dQ b a (c==4) else bif c==5 then dQ b a (c==5) else dQ b a (c==6)
def jr(c:Z4)(a:Ba)(b:Int)(d:Bool):Oa Ba:=cond d (Ze (a.length+([32]:Ba).length<=Ym)<|Ze ((a++([32]:Ba)).length+(c:Zaj).length<=Ym)<|some ((a++([32]:Ba))++(c:Zaj),())) (cond (b==2) (js c a b (b==2)) (js c a b (b==7)))
def cC(a:Z4):Oa Ba:=(du a).bind λc=>cond (!c.1) (Y (([]:Ba),())) ((lC a.1).bind λb=>cond (a.1==1) (jr a b.1 a.1 (a.1==1)) (jr a b.1 a.1 (a.1==11)))
def rC(K1:(Ba×Z4×Ba×Ba×Z4×Int×Unit)->Oc Z4 Bool)(a:Ba)(b:Z4)(c d:Ba)(e:Z4)(f:Int):Oc Z4 Bool:=K1 (a,b,c,d,e,K3.wrap (f+1),())
def ak(a:Ba)(d b:Z4):Oc Z4 Bool:=(cC b).bind λc=>cond ((!(c.1==a))||(a==([]:Ba))) (Y (mi,K4,())) (Y (b,Lb,()))
def lK(b:Ba)(c:Z4)(d:Ba)(a:Z4)(e f:Ba)(g:Bool):Oc Z4 Bool:=cond g ((qx e).bind λh=>(qx f).bind λi=>ak b c (a.1,h.1,i.1,a.2.2.2)) ((qx d).bind λj=>ak b c (tP a j.1))
def rE(c:Ba)(d:Z4)(e:Ba)(a:Z4)(f g:Ba)(b:Int)(h:Bool):Oc Z4 Bool:=cond h ((qx f).bind λi=>ak c d (a.1,i.1,a.2.2.1,g,a.2.2.2.2)) (cond (b==3) ((qx e).bind λj=>ak c d (a.1,j.1,a.2.2)) (cond (b==4) (lK c d e a f g (b==4)) (cond (b==5) (lK c d e a f g (b==5)) (lK c d e a f g (b==6)))))
def rD(c:Ba)(d:Z4)(e:Ba)(a:Z4)(f g:Ba)(b:Int)(h:Bool):Oc Z4 Bool:=cond h (ak c d (tD a e)) (cond (b==2) (rE c d e a f g b (b==2)) (rE c d e a f g b (b==7)))
def Z6y(b:Ba)(c:Z4)(d e:Ba)(f:Z4)(a:Int):Nat:=((12:Int)-a).toNat+2
def Vu:Nat->Ba->Z4->Ba->Ba->Z4->Int->Oc Z4 Bool|0,_,_,_,_,_,_=>Lc|N+1,d,e,g,b,a,c=>cond (La (c<=(12:Int))) ((lC c).bind λh=>cond (h.1==g) (rC (λv=>Vu N v.1 v.2.1 v.2.2.1 v.2.2.2.1 v.2.2.2.2.1 v.2.2.2.2.2.1) d e g b (c,a.2) c) (rC (λv=>Vu N v.1 v.2.1 v.2.2.1 v.2.2.2.1 v.2.2.2.2.1 v.2.2.2.2.2.1) d e g b a c)) ((XV b).bind λf=>cond (a.1==1) (rD d e b a f.1 f.2.1 a.1 (a.1==1)) (rD d e b a f.1 f.2.1 a.1 (a.1==11)))
def si(b:Ba):Oc Z4 Bool:=(XV b).bind λa=>Vu (Z6y b mi a.1 a.2.1 mi (1:Int)) b mi a.1 a.2.1 mi (1:Int)
def mf(c:List Z4)(a:List Ba)(b:Int):Nat:=((a.length:Int)- (K3.wrap (b+1))).toNat+1
def cz:Nat->List Z4->List Ba->Int->Oc (List Z4) Bool|0,_,_,_=>Lc|N+1,c,a,b=>bif La ((K3.wrap (b+1))<(a.length:Int))then gH a b<|(si (a.getD b.toNat ([]:Ba))).bind λd=>bif !d.2.1 then Y (([]:List Z4),K4,()) else Ze (c.length+([d.1]).length<=Qg)<|cz N (c++([d.1])) a (K3.wrap (b+1)) else let e:Int:=K3.wrap ((a.length:Int)- (1:Int));gH a e<|bif !((a.getD e.toNat ([]:Ba))==([]:Ba))then Y (([]:List Z4),K4,()) else Y (c,Lb,())
def uK(b:Ba):Oc (List Z4) Bool:=(wi b (10:Int)).bind λa=>cz (mf ([]:List Z4) a.1 (0:Int)) ([]:List Z4) a.1 (0:Int)
def z9(a:Q9):Oa Q9:=Ze (([]:List Int).length+(a:SW).length<=Qg)<|some ((a.1,a.2.1,(a:Zab),([]:List Int)++(a:SW),()),())
def qy(a:List Zi):Oa (List Zi):=Ze (([]:List Zi).length+a.length<=Qg)<|some (([]:List Zi)++a,())
def it(a:Zn):Oa Zn:=(z9 a.2.1).bind λb=>(qy (a:ST)).bind λc=>(qy (a:Zae)).bind λd=>(qy (a:Zag)).bind λe=>Y ((a.1,b.1,c.1,d.1,e.1,(a:Zam),(a:Zaf),(a:Zal),(a:ZaQ),()),())
def qz(a:Zx):Oa Zx:=Ze (([]:List Z6).length+a.2.1.length<=Qg)<|some ((a.1,([]:List Z6)++a.2.1,()),())
def nO(a:Zz):Oa Zz:=(qz a.2.1).bind λb=>Y ((a.1,b.1,(a:Or),(a:Zau),(a:ZaH),()),())
def kh(a:Zh):Oa Zh:=(it a.2.1).bind λb=>(nO (a:Fd)).bind λc=>Y ((a.1,b.1,(a:LE),c.1,a.2.2.2.2),())
def qj(a c:List Qa)(b:Int):Nat:=((a.length:Int)-b).toNat+1
def lO:Nat->List Qa->List Qa->Int->Oa (List Qa)|0,_,_,_=>Lc|N+1,b,c,a=>bif La (a<(b.length:Int))then gH b a<|gH b a<|Ze (([]:List Zj).length+(gI b a).2.1.length<=Qg)<|let d:List Qa:=[((gI b a).1,([]:List Zj)++(gI b a).2.1,())];Ze (c.length+d.length<=Qg)<|lO N b (c++d) (K3.wrap (a+1)) else Y (c,())
def zb(a:List Qa):Oa (List Qa):=lO (qj a ([]:List Qa) (0:Int)) a ([]:List Qa) (0:Int)
def wj(a c d:Zf)(b:Int):Nat:=(((a:Id).length:Int)-b).toNat+1
def sl:Nat->Zf->Zf->Zf->Int->Oa Zf|0,_,_,_,_=>Lc|N+1,b,e,a,c=>cond (La (c<((b:Id).length:Int))) (gH (b:Id) c<|(kh (gJ (b:Id) c)).bind λd=>Ze ((a:Id).length+([d.1]).length<=Qg)<|sl N b e (tD a ((a:Id)++([d.1]))) (K3.wrap (c+1))) ((zb (b:Zac)).bind λf=>Y ((tJ a f.1),()))
def Qf(a:Zf):Oa Zf:=sl (wj a Xl (tD a ([]:List Zh)) (0:Int)) a Xl (tD a ([]:List Zh)) (0:Int)
def aT(a:Q9)(b:Int):Nat:=(((a:SW).length:Int)-b).toNat+1
def lE:Nat->Q9->Int->Oa Bool|0,_,_=>Lc|N+1,b,a=>cond (La (a<((b:SW).length:Int))) (Ze (0<=a/\a<(b:SW).length)<|(Z8 ((b:SW).getD a.toNat (0:Int)) (0:Int) (255:Int)).bind λc=>cond (!c.1) (Y (K4,())) (lE N b (K3.wrap (a+1)))) (Y (Lb,()))
def cE(a:Q9):Oa Bool:=(dE a.1).bind λb=>cond ((((((!b.1)||(((a:SW).length:Int) !=a.1))||(La (a.2.1<(0:Int))))||(La ((a:Zab)<a.2.1)))||(La ((K3.wrap ((a:Zab)-a.2.1))>a.1)))||(La ((a:Zab)>(4611686018427387903:Int)))) (Y (K4,())) (lE (aT a (0:Int)) a (0:Int))
def VH(a:Zi):Oa Bool:=Y (((La (a.1>=(0:Int)))&&(La (a.1<a.2.1)))&&(La (a.2.1<=(4611686018427387903:Int))),())
def eY(a:List Zi)(b:Int):Nat:=((a.length:Int)-b).toNat+1
def cD:Nat->List Zi->Int->Oa Bool|0,_,_=>Lc|N+1,b,a=>cond (La (a<(b.length:Int))) (Ze (0<=a/\a<b.length)<|(VH (b.getD a.toNat Z3)).bind λc=>Ze (((!c.1)=K4->((La (a>(0:Int)))=Lb->(0<=(K3.wrap (a-1))/\(K3.wrap (a-1))<b.length))))<|Ze (((!c.1)=K4->((La (a>(0:Int)))=Lb->(0<=a/\a<b.length))))<|cond ((!c.1)||((La (a>(0:Int)))&&(La ((b.getD (K3.wrap (a-1)).toNat Z3).2.1>=(b.getD a.toNat Z3).1)))) (Y (K4,())) (cD N b (K3.wrap (a+1)))) (Y (Lb,()))
def V9(a:List Zi):Oa Bool:=cD (eY a (0:Int)) a (0:Int)
def cw(K1:(List Zi×Zi×List Zi×Bool×Int×Unit)->Oa (List Zi))(a:List Zi)(b:Zi)(c:List Zi)(d:Bool)(e:Int):Oa (List Zi):=K1 (a,b,c,d,K3.wrap (e+1),())
def qa(K1:(List Zi×Zi×List Zi×Bool×Int×Unit)->Oa (List Zi))(b:List Zi)(d:Zi)(c:List Zi)(e:Bool)(a:Int):Oa (List Zi):=gH b a<|Ze (c.length+([(gK b a)]).length<=Qg)<|cw K1 b d (c++([(gK b a)])) e a
def lV(a:List Zi)(c:Zi)(d:List Zi)(e:Bool)(b:Int):Nat:=((a.length:Int)-b).toNat+1
def K7:Nat->List Zi->Zi->List Zi->Bool->Int->Oa (List Zi)|0,_,_,_,_,_=>Lc|N+1,b,c,d,e,a=>cond (La (a<(b.length:Int))) (Ze (0<=a/\a<b.length)<|cond (La ((b.getD a.toNat Z3).2.1<c.1)) (Ze (0<=a/\a<b.length)<|Ze (d.length+([(b.getD a.toNat Z3)]).length<=Qg)<|cw (λv=>K7 N v.1 v.2.1 v.2.2.1 v.2.2.2.1 v.2.2.2.2.1) b c (d++([(b.getD a.toNat Z3)])) e a) (Ze (0<=a/\a<b.length)<|cond (La ((b.getD a.toNat Z3).1>c.2.1)) (cond (!e) (Ze (d.length+([c]).length<=Qg)<|qa (λv=>K7 N v.1 v.2.1 v.2.2.1 v.2.2.2.1 v.2.2.2.2.1) b c (d++([c])) Lb a) (qa (λv=>K7 N v.1 v.2.1 v.2.2.1 v.2.2.2.1 v.2.2.2.2.1) b c d e a)) (Ze (0<=a/\a<b.length)<|Ze (0<=a/\a<b.length)<|cw (λv=>K7 N v.1 v.2.1 v.2.2.1 v.2.2.2.1 v.2.2.2.2.1) b (min c.1 (b.getD a.toNat Z3).1,max c.2.1 (b.getD a.toNat Z3).2.1,c.2.2) d e a))) (cond (!e) (Ze (d.length+([c]).length<=Qg)<|some (d++([c]),())) (Y (d,())))
def cW(a:List Zi)(b:Zi):Oa (List Zi):=(V9 a).bind λc=>(gG (!c.1) (VH b)).bind λd=>cond ((!c.1)||(!d.1)) ((qy a).bind λe=>Y (e.1,())) (K7 (lV a b ([]:List Zi) K4 (0:Int)) a b ([]:List Zi) K4 (0:Int))
def eE(a:List Zi)(c b:Int):Nat:=((a.length:Int)-b).toNat+1
def Vh:Nat->List Zi->Int->Int->Oa Int|0,_,_,_=>Lc|N+1,b,c,a=>cond (La (a<(b.length:Int))) (Ze (0<=a/\a<b.length)<|Ze (0<=a/\a<b.length)<|Vh N b (K3.wrap ((K3.wrap (c+(b.getD a.toNat Z3).2.1))- (b.getD a.toNat Z3).1)) (K3.wrap (a+1))) (Y (c,()))
def aX(a:List Zi):Oa Int:=(V9 a).bind λb=>cond (!b.1) (Y ((-1:Int),())) (Vh (eE a (0:Int) (0:Int)) a (0:Int) (0:Int))
def qe(K1:(List Zi×Int×Int×Unit)->Oa Int)(a:List Zi)(b c:Int):Oa Int:=K1 (a,b,K3.wrap (c+1),())
def uk(a:List Zi)(c b:Int):Nat:=((a.length:Int)-b).toNat+1
def aA:Nat->List Zi->Int->Int->Oa Int|0,_,_,_=>Lc|N+1,b,c,a=>bif La (a<(b.length:Int))then Ze (0<=a/\a<b.length)<|let d:Bool:=La (c>=(b.getD a.toNat Z3).1);Ze ((d=Lb->(0<=a/\a<b.length)))<|bif d&&(La (c<(b.getD a.toNat Z3).2.1))then Ze (0<=a/\a<b.length)<|qe (λv=>aA N v.1 v.2.1 v.2.2.1) b (b.getD a.toNat Z3).2.1 a else qe (λv=>aA N v.1 v.2.1 v.2.2.1) b c a else Y (c,())
def oa(a:List Zi)(b:Int):Oa Int:=(V9 a).bind λc=>cond ((!c.1)||(La (b<(0:Int)))) (Y ((-1:Int),())) (aA (uk a b (0:Int)) a b (0:Int))
def dF(a:Zn):Oa Int:=cond (((a:Zaf)==3)&&(a.2.1.2.1==(a:Zad))) (Y ((3:Int),())) (cond ((La ((a:Zaf)>(1:Int)))||(((a:Zaf)==1)&&(a.1==2))) (Y ((2:Int),())) (cond ((La ((a:Zal)>(0:Int)))||(((a:Zaf)==1)&&(a.1==1))) (Y ((1:Int),())) (Y ((0:Int),()))))
def lZ(a:Zn)(i8:Int):Nat:=(((a:Zag).length:Int)-i8).toNat+1
def fJ:Nat->Zn->Int->Oa Bool|0,_,_=>Lc|N+1,a,i8=>cond (La (i8<((a:Zag).length:Int))) (Ze (0<=i8/\i8<(a:Zag).length)<|cond (La (((a:Zag).getD i8.toNat Z3).2.1>(a:Zal))) (Y (K4,())) (fJ N a (K3.wrap (i8+1)))) (cond ((!(((a:Zaf)==0)==((a:Zam)==(-1:Int))))||(((a:Zam) !=(-1:Int))&&((a:Zam) !=(a:Zad)))) (Y (K4,())) ((dF a).bind λb=>Y (a.1==b.1,())))
def lY(a:Zn)(b:Int):Nat:=(((a:Zae).length:Int)-b).toNat+1
def fI:Nat->Zn->Int->Oa Bool|0,_,_=>Lc|N+1,a,b=>cond (La (b<((a:Zae).length:Int))) (Ze (0<=b/\b<(a:Zae).length)<|cond (La (((a:Zae).getD b.toNat Z3).2.1>(a:Zal))) (Y (K4,())) (fI N a (K3.wrap (b+1)))) (fJ (lZ a (0:Int)) a (0:Int))
def eZ(a:Zn)(c:List Zi)(b:Int):Nat:=(((a:Zag).length:Int)-b).toNat+1
def fH:Nat->Zn->List Zi->Int->Oa Bool|0,_,_,_=>Lc|N+1,a,c,b=>bif La (b<((a:Zag).length:Int))then Ze (0<=b/\b<(a:Zag).length)<|(cW c ((a:Zag).getD b.toNat Z3)).bind λf=>fH N a f.1 (K3.wrap (b+1)) else(aX (a:ST)).bind λg=>(aX (a:Zae)).bind λh=>(aX (a:Zag)).bind λi=>(aX c).bind λj=>let d:Bool:=(j.1 !=(a:Zad))||((K3.wrap ((K3.wrap (g.1+h.1))+i.1)) !=(a:Zad));Ze ((d=K4->((La ((a:Zad)>(0:Int)))=Lb->(0<=(0:Int)/\(0:Int)<c.length))))<|let e:Bool:=d||((La ((a:Zad)>(0:Int)))&&((c.getD (0:Int).toNat Z3).2.1 !=(a:Zad)));(cond e (Y ((0:Int),())) (oa (a:Zag) (0:Int))).bind λk=>bif(e||(k.1 !=a.2.1.2.1))||((a:ZaQ) !=0)then Y (K4,()) else fI (lY a (0:Int)) a (0:Int)
def Jr(a:Zn)(Bk:List Zi)(b:Int):Nat:=(((a:Zae).length:Int)-b).toNat+1
def fG:Nat->Zn->List Zi->Int->Oa Bool|0,_,_,_=>Lc|N+1,a,Bk,b=>cond (La (b<((a:Zae).length:Int))) (Ze (0<=b/\b<(a:Zae).length)<|(cW Bk ((a:Zae).getD b.toNat Z3)).bind λc=>fG N a c.1 (K3.wrap (b+1))) (fH (eZ a Bk (0:Int)) a Bk (0:Int))
def Km(a:Zn):Oa Bool:=(cE a.2.1).bind λb=>(gG (!b.1) (V9 (a:ST))).bind λe=>(gG ((!b.1)||(!e.1)) (V9 (a:Zae))).bind λh=>let c:Bool:=((!b.1)||(!e.1))||(!h.1);(gG c (V9 (a:Zag))).bind λf=>(gG (c||(!f.1)) (Z8 (a:Zal) (0:Int) (a:Zad))).bind λi=>let d:Bool:=(c||(!f.1))||(!i.1);(gG d (Q0 (a:ZaQ))).bind λg=>(gG (d||(!g.1)) (Z8 (a:Zaf) (0:Int) (3:Int))).bind λj=>bif(d||(!g.1))||(!j.1)then Y (K4,()) else bif(a.1==4)||(a.1==5)then Y (((((((a.2.1.2.1==(a:Zad))&&(((a:ST).length:Int)==(0:Int)))&&(((a:Zae).length:Int)==(0:Int)))&&(((a:Zag).length:Int)==(0:Int)))&&((a:Zam)==(a:Zal)))&&((a:Zaf)==0))&&((a:Zal)==(a:Zad)),()) else fG (Jr a (a:ST) (0:Int)) a (a:ST) (0:Int)
def J9(a:Qq):Oa Bool:=(Q0 a.1).bind λb=>(cond b.1 (Z8 a.2.1 (0:Int) a.1) (Y (K4,()))).bind λc=>(cond (b.1&&c.1) (Z8 a.2.2.1 (-1:Int) a.1) (Y (K4,()))).bind λd=>(cond ((b.1&&c.1)&&d.1) (Z8 (a:ZaC) (-1:Int) a.1) (Y (K4,()))).bind λe=>Y (((b.1&&c.1)&&d.1)&&e.1,())
def ul(a:Zx)(c b:Int):Nat:=((a.2.1.length:Int)-b).toNat+1
def kP:Nat->Zx->Int->Int->Oa Bool|0,_,_,_=>Lc|N+1,a,c,b=>cond (La (b<(a.2.1.length:Int))) (Ze (0<=b/\b<a.2.1.length)<|cond (((La ((a.2.1.getD b.toNat Qr).1<=c))||((a.2.1.getD b.toNat Qr).2.1==([]:Ba)))||(La ((a.2.1.getD b.toNat Qr).1>(K3.wrap ((4611686018427387903:Int)- ((a.2.1.getD b.toNat Qr).2.1.length:Int)))))) (Y (K4,())) (kP N a (K3.wrap ((a.2.1.getD b.toNat Qr).1+((a.2.1.getD b.toNat Qr).2.1.length:Int))) (K3.wrap (b+1)))) ((Q0 a.1).bind λd=>Y (d.1,()))
def kq(a:Zx):Oa Bool:=kP (ul a (K3.wrap (a.1-1)) (0:Int)) a (K3.wrap (a.1-1)) (0:Int)
def we(a:Zx):Oa Int:=(gG ((a.2.1.length:Int)==(0:Int)) (kq a)).bind λc=>bif((a.2.1.length:Int)==(0:Int))||(!c.1)then Y (a.1,()) else let b:Int:=K3.wrap ((a.2.1.length:Int)- (1:Int));gH a.2.1 b<|Y (K3.wrap ((gL a.2.1 b).1+((gL a.2.1 b).2.1.length:Int)),())
def ee(a:Zx):Oa Int:=(kq a).bind λc=>let b:Bool:=(!c.1)||((a.2.1.length:Int)==(0:Int));Ze ((b=K4->(0<=(0:Int)/\(0:Int)<a.2.1.length)))<|bif b||((a.2.1.getD (0:Int).toNat Qr).1 !=a.1)then Y ((0:Int),()) else Ze (0<=(0:Int)/\(0:Int)<a.2.1.length)<|Y (((a.2.1.getD (0:Int).toNat Qr).2.1.length:Int),())
def Kt(a:Zz)(b:Bool):Oa Bool:=cond b (Y ((((a:Or) !=(-1:Int))&&((a:Zau)==(a:Or)))&&((a.2.1.2.1.length:Int)==(0:Int)),())) (Y (K4,()))
def Yj(a:Zz):Oa Bool:=(kq a.2.1).bind λb=>(gG (!b.1) (Q0 (a:Zau))).bind λd=>(cond ((!b.1)||(!d.1)) (Y ((0:Int),())) (we a.2.1)).bind λf=>let e:Bool:=((!b.1)||(!d.1))||(La (f.1>(a:Zau)));(gG e (Q0 (a:ZaH))).bind λg=>bif(((e||(!g.1))||(((a:Or) !=(-1:Int))&&(La ((a:Or)<(a:Zau)))))||(La ((a:Or)>(4611686018427387903:Int))))||(La ((a:Or)<(-1:Int)))then Y (K4,()) else(cond ((a:Or) !=(-1:Int)) (ee a.2.1) (Y ((0:Int),()))).bind λh=>let c:Bool:=((a:Or) !=(-1:Int))&&((K3.wrap (a.2.1.1+h.1))==(a:Or));bif a.1==0 then Y (((a:Or)==(-1:Int))&&((a:ZaH)==0),()) else bif a.1==1 then Y ((((a:Or) !=(-1:Int))&&(!c))&&((a:ZaH)==0),()) else bif a.1==2 then Y (c&&((a:ZaH)==0),()) else bif a.1==3 then Y ((c&&((a.2.1.2.1.length:Int)==(0:Int)))&&((a:ZaH)==0),()) else bif a.1==4 then Kt a (a.1==4) else Kt a (a.1==5)
def bp(a:Qp):Oa Bool:=(Z8 a.2.1 (1:Int) (4096:Int)).bind λb=>(cond b.1 (Z8 a.1 (1:Int) a.2.1) (Y (K4,()))).bind λc=>(cond (b.1&&c.1) (Z8 a.2.2.1 (1:Int) (4611686018427387903:Int)) (Y (K4,()))).bind λd=>(cond ((b.1&&c.1)&&d.1) (Z8 (a:ZaD) (0:Int) a.2.2.1) (Y (K4,()))).bind λg=>let e:Bool:=((b.1&&c.1)&&d.1)&&g.1;(cond e (Z8 (a:ZaL) (0:Int) (a:ZaD)) (Y (K4,()))).bind λh=>let f:Bool:=(e&&h.1)&&(La (a.2.2.1<=(K3.wrap ((a:ZaL)+a.1))));(cond f (Z8 (a:Zbr) (0:Int) (1000000:Int)) (Y (K4,()))).bind λi=>Y (f&&i.1,())
def bF(a:Qz):Oa Bool:=(Z8 a.1 (0:Int) (7:Int)).bind λb=>Y (b.1,())
def f7(a:Zh):Oa Bool:=(Q0 a.1).bind λb=>(gG (!b.1) (Km a.2.1)).bind λe=>(gG ((!b.1)||(!e.1)) (J9 (a:LE))).bind λh=>let c:Bool:=((!b.1)||(!e.1))||(!h.1);(gG c (Yj (a:Fd))).bind λf=>(gG (c||(!f.1)) (bp (a:Fn))).bind λi=>let d:Bool:=(c||(!f.1))||(!i.1);(gG d (bF (a:Zaz))).bind λg=>(gG (d||(!g.1)) (Q0 (a:Zaw).1)).bind λj=>bif((d||(!g.1))||(!j.1))||((!(a:Zak))&&(!(a:Zao)))then Y (K4,()) else bif((((La ((a:Zba)>(a:LE).2.1))||(La ((a:Zbg).1>(a:ZaY).1)))||((a:ZaE).1&&(a.2.1.1 !=4)))||((a:ZaS)&&(!(a:ZaM))))||(((a:Zaw).1 !=0)&&(!(a:ZaM)))then Y (K4,()) else Y (((a:Zak)||(((a.2.1.1==0)&&((a:ZaR).2.2.1==0))&&((a:ZaV).1==(-1:Int))))&&((a:Zao)||((((a:Zat)==0)&&((a:Zbg).1==0))&&(!(a:ZaM)))),())
def cx(a:List Zh)(b:Int):Nat:=((a.length:Int)-b).toNat+1
def Ks:Nat->List Zh->Int->Oa Bool|0,_,_=>Lc|N+1,b,a=>cond (La (a<(b.length:Int))) (Ze (0<=a/\a<b.length)<|(f7 (b.getD a.toNat Zc)).bind λc=>Ze (((!c.1)=K4->((La (a>(0:Int)))=Lb->(0<=a/\a<b.length))))<|Ze (((!c.1)=K4->((La (a>(0:Int)))=Lb->(0<=(K3.wrap (a-1))/\(K3.wrap (a-1))<b.length))))<|cond ((!c.1)||((La (a>(0:Int)))&&(La ((b.getD a.toNat Zc).1<=(b.getD (K3.wrap (a-1)).toNat Zc).1)))) (Y (K4,())) (Ks N b (K3.wrap (a+1)))) (Y (La ((b.length:Int)<=(24:Int)),()))
def Jy(a:List Zh):Oa Bool:=Ks (cx a (0:Int)) a (0:Int)
def fZ(a:aP):Oa Bool:=(Z8 a.1 (0:Int) (1152921504606846976:Int)).bind λb=>(cond b.1 (Z8 a.2.1 (0:Int) a.1) (Y (K4,()))).bind λc=>(cond (b.1&&c.1) (Z8 a.2.2.1 (-1:Int) a.1) (Y (K4,()))).bind λd=>Y ((b.1&&c.1)&&d.1,())
def aB(a:Qq):Oa Bool:=(Z8 a.1 (0:Int) (1000:Int)).bind λb=>(cond b.1 (Z8 a.2.1 a.1 (1152921504606846976:Int)) (Y (K4,()))).bind λc=>(cond (b.1&&c.1) (Z8 a.2.2.1 (0:Int) a.2.1) (Y (K4,()))).bind λd=>(cond ((b.1&&c.1)&&d.1) (Z8 (a:ZaC) (0:Int) a.2.2.1) (Y (K4,()))).bind λe=>Y ((((b.1&&c.1)&&d.1)&&e.1)&&(La (a.2.1<=(K3.wrap ((a:ZaC)+a.1)))),())
def yz(a:Int):Oa Ba:=cond (a==4) (Y (([114,101,115,101,116]:Ba),())) (cond (a==5) (Y (([115,116,111,112]:Ba),())) (cond (a==8) (Y (([115,116,114,101,97,109]:Ba),())) (cond (a==16) (Y (([109,97,120,100,97,116,97]:Ba),())) (cond (a==17) (Y (([109,97,120,115,116,114,101,97,109,100,97,116,97]:Ba),())) (cond (a==18) (Y (([109,97,120,115,116,114,101,97,109,115]:Ba),())) (cond (a==20) (Y (([100,97,116,97,98,108,111,99,107,101,100]:Ba),())) (cond (a==21) (Y (([115,116,114,101,97,109,100,97,116,97,98,108,111,99,107,101,100]:Ba),())) (cond (a==22) (Y (([115,116,114,101,97,109,115,98,108,111,99,107,101,100]:Ba),())) (Y (([]:Ba),()))))))))))
def Kv(a:Bool):Oa Bool:=cond a (Y (Lb,())) (Y (K4,()))
def Vr(a:Zj):Oa Bool:=cond (a.1==4) (Kv (a.1==4)) (cond (a.1==5) (Kv (a.1==5)) (cond (a.1==8) (Kv (a.1==8)) (cond (a.1==17) (Kv (a.1==17)) (Kv (a.1==21)))))
def XX(b d a:Zj)(c:Bool):Oa Zj:=cond c (Y ((a.1,a.2.1,(a:LT),(a:IO),(a:Zas),(a:Zap),(b:Zan),(a:Zax),(b:ZaA),(a:Zbb).2.2.2),())) (Y ((a.1,a.2.1,(a:LT),(a:IO),(a:Zas),(a:Zap),(b:Zan),(a:Zbb).2),()))
def XW(b c a:Zj):Oa Zj:=cond (b.1==4) (Y ((a.1,a.2.1,(a:LT),(a:IO),(a:Zas),(b:Zap),(a:Zan),(b:Zax),(a:Zbb).2.2),())) (cond (b.1==5) (Y ((a.1,a.2.1,(a:LT),(a:IO),(a:Zas),(b:Zap),(a:Zbb)),())) (cond (b.1==8) (Y ((a.1,a.2.1,(b:LT),(b:IO),(b:Zas),a.2.2.2.2.2),())) (cond (b.1==18) (XX b c a (b.1==18)) (XX b c a (b.1==22)))))
def VI(a:Zj):Oa Zj:=(Vr a).bind λb=>cond b.1 (XW a Z9 (a.1,a.2.1,(0:Int),([]:Ba),K4,(0:Int),(0:Int),(0:Int),K4,())) (XW a Z9 (a.1,(0:Int),(0:Int),([]:Ba),K4,(0:Int),(0:Int),(0:Int),K4,()))
def y6(a:Zj)(b:Bool):Oa Bool:=cond b (Y (La ((a:Zan)<=(1152921504606846976:Int)),())) (Y (Lb,()))
def aC(a:Zj):Oa Bool:=(yz a.1).bind λd=>(cond (d.1==([]:Ba)) (Y (Z9,())) (VI a)).bind λh=>let b:Bool:=(d.1==([]:Ba))||(!(TR Zt h.1 a));(gG b (Q0 a.2.1)).bind λe=>(gG (b||(!e.1)) (Q0 (a:LT))).bind λi=>let c:Bool:=(b||(!e.1))||(!i.1);(gG c (Q0 (a:Zap))).bind λf=>(gG (c||(!f.1)) (Q0 (a:Zan))).bind λj=>let g:Bool:=(c||(!f.1))||(!j.1);(gG g (Q0 (a:Zax))).bind λk=>bif(g||(!k.1))||(La (((a:IO).length:Int)>(400:Int)))then Y (K4,()) else bif a.1==8 then Y (La ((a:LT)<=(K3.wrap ((4611686018427387903:Int)- ((a:IO).length:Int)))),()) else bif a.1==18 then y6 a (a.1==18) else y6 a (a.1==22)
def Vv(a:List Zj)(b:Int):Nat:=((a.length:Int)-b).toNat+1
def Wt:Nat->List Zj->Int->Oa Bool|0,_,_=>Lc|N+1,b,a=>cond (La (a<(b.length:Int))) (Ze (0<=a/\a<b.length)<|(aC (b.getD a.toNat Z9)).bind λc=>cond (!c.1) (Y (K4,())) (Wt N b (K3.wrap (a+1)))) (Y (Lb,()))
def ir(a:List Zj):Oa Bool:=Wt (Vv a (0:Int)) a (0:Int)
def Je(a:List Zh)(c b:Int):Nat:=((a.length:Int)-b).toNat+1
def Vb:Nat->List Zh->Int->Int->Oa Int|0,_,_,_=>Lc|N+1,a,c,b=>(cond (La (b<(a.length:Int))) (Jy a) (Y (K4,()))).bind λd=>cond ((La (b<(a.length:Int)))&&d.1) (Ze (0<=b/\b<a.length)<|Vb N a (min (K3.wrap (c+(a.getD b.toNat Zc:Zba))) (4611686018427387904:Int)) (K3.wrap (b+1))) (Y (c,()))
def io(a:List Zh):Oa Int:=Vb (Je a (0:Int) (0:Int)) a (0:Int) (0:Int)
def Jd(a:List Zh)(c b:Int):Nat:=((a.length:Int)-b).toNat+1
def Va:Nat->List Zh->Int->Int->Oa Int|0,_,_,_=>Lc|N+1,a,c,b=>(cond (La (b<(a.length:Int))) (Jy a) (Y (K4,()))).bind λd=>cond ((La (b<(a.length:Int)))&&d.1) (Ze (0<=b/\b<a.length)<|Va N a (min (K3.wrap (c+(a.getD b.toNat Zc:Zbg).1)) (4611686018427387904:Int)) (K3.wrap (b+1))) (Y (c,()))
def ij(a:List Zh):Oa Int:=Va (Jd a (0:Int) (0:Int)) a (0:Int) (0:Int)
def Wg(a:Zf)(b:Int):Nat:=(((a:Zac).length:Int)-b).toNat+1
def dr:Nat->Zf->Int->Oa Bool|0,_,_=>Lc|N+1,a,b=>bif La (b<((a:Zac).length:Int))then Ze (0<=b/\b<(a:Zac).length)<|(Z8 ((a:Zac).getD b.toNat Xq).1 (0:Int) (K3.wrap ((a:ZaI)-1))).bind λd=>Ze (((!d.1)=K4->((La (b>(0:Int)))=Lb->(0<=b/\b<(a:Zac).length))))<|Ze (((!d.1)=K4->((La (b>(0:Int)))=Lb->(0<=(K3.wrap (b-1))/\(K3.wrap (b-1))<(a:Zac).length))))<|let e:Bool:=(!d.1)||((La (b>(0:Int)))&&(La (((a:Zac).getD b.toNat Xq).1<=((a:Zac).getD (K3.wrap (b-1)).toNat Xq).1)));Ze ((e=K4->(0<=b/\b<(a:Zac).length)))<|(cond e (Y (K4,())) (ir ((a:Zac).getD b.toNat Xq).2.1)).bind λj=>bif e||(!j.1)then Y (K4,()) else dr N a (K3.wrap (b+1)) else(Z8 (a:ZaN).1 (-1:Int) (4611686018427387903:Int)).bind λc=>(cond c.1 (Z8 (a:ZaI) (0:Int) (1000000:Int)) (Y (K4,()))).bind λf=>(cond (c.1&&f.1) (Z8 (a:ZaT).2.1 (0:Int) (1000000:Int)) (Y (K4,()))).bind λh=>(cond ((c.1&&f.1)&&h.1) (Z8 (a:ZaG) (0:Int) (255:Int)) (Y (K4,()))).bind λk=>let g:Bool:=((c.1&&f.1)&&h.1)&&k.1;(cond g (io (a:Id)) (Y ((0:Int),()))).bind λi=>(cond (g&&(La (i.1<=(a:Zah).2.1))) (ij (a:Id)) (Y ((0:Int),()))).bind λl=>Y ((g&&(La (i.1<=(a:Zah).2.1)))&&(La (l.1<=(a:Zai).2.2.2.1)),())
def Ky(a:Zf):Oa Bool:=(a9 a.2.1).bind λb=>(gG (!b.1) (a9 a.2.2.1)).bind λf=>(gG ((!b.1)||(!f.1)) (Jy (a:Id))).bind λj=>let c:Bool:=((!b.1)||(!f.1))||(!j.1);(gG c (J9 (a:Zah))).bind λg=>(gG (c||(!g.1)) (bp (a:Zai))).bind λk=>let d:Bool:=(c||(!g.1))||(!k.1);(gG d (fZ (a:Zar))).bind λh=>(gG (d||(!h.1)) (fZ (a:Zaq))).bind λl=>let e:Bool:=(d||(!h.1))||(!l.1);(gG e (aB (a:Zay))).bind λi=>(gG (e||(!i.1)) (aB (a:Zav))).bind λm=>bif(e||(!i.1))||(!m.1)then Y (K4,()) else dr (Wg a (0:Int)) a (0:Int)
def oc(a:Zf):Oa Bool:=Y ((a:ZaG) !=0,())
def Ka(a:Zf):Oa Bool:=(Ky a).bind λb=>(cond b.1 (oc a) (Y (K4,()))).bind λc=>Y (b.1&&(!c.1),())
def tf(a:aP):Od Int aP Bool:=(fZ a).bind λb=>cond (!b.1) (Y ((-1:Int),a,K4,())) (cond (a.2.1==a.1) (Y ((-1:Int),(a.1,a.2.1,a.1,a.2.2.2),K4,())) (Y (a.2.1,(a.1,K3.wrap (a.2.1+1),a.2.2),Lb,())))
def lG(b:Bool)(a:Int):Oa Int:=cond b (Y (K3.wrap (a+2),())) (Y (a,()))
def qw(a:Int)(d b:Bool):Oa Int:=(Z8 a (0:Int) (1152921504606846975:Int)).bind λe=>bif !e.1 then Y ((-1:Int),()) else Ze (0<=(2:Int))<|let c:Int:=K3.wrap (a*2^ (min (2:Int).toNat K3.bits));bif d then lG b (K3.wrap (c+1)) else lG b c
def cA:Oa Qz:=Y (((3:Int),K4,()),())
def xr:Oa Zz:=Y (((0:Int),((0:Int),([]:List Z6),()),(-1:Int),(0:Int),(0:Int),()),())
def aD(a:Int):Oa Bool:=(Q0 a).bind λb=>Y (b.1&&((bits .and .i64 a (2:Int))==2),())
def sg(a:Int):Oa Bool:=(Q0 a).bind λb=>Y (b.1&&((bits .and .i64 a (1:Int))==1),())
def jd(c:Bool)(a:Int):Oa Bool:=(Q0 a).bind λb=>(cond b.1 (sg a) (Y (K4,()))).bind λd=>Y (b.1&&(d.1==c),())
def V4(d:Bool)(a:Int):Oa Bool:=(Q0 a).bind λb=>(cond b.1 (aD a) (Y (K4,()))).bind λc=>(cond (!c.1) (Y (K4,())) (cond b.1 (jd d a) (Y (K4,())))).bind λe=>Y (b.1&&((!c.1)||e.1),())
def Y9(d:Bool)(a:Int):Oa Bool:=(Q0 a).bind λb=>(cond b.1 (aD a) (Y (K4,()))).bind λc=>(cond (!c.1) (Y (K4,())) (cond b.1 (jd d a) (Y (K4,())))).bind λe=>Y (b.1&&((!c.1)||(!e.1)),())
def BK(a:Int):Oc Q9 Bool:=(dE a).bind λb=>cond (!b.1) (Y (HG,K4,())) (Ze (0<=a/\a<=a/\a<=Qg)<|some ((a,(0:Int),(0:Int),Lh a.toNat (0:Int),()),Lb,()))
def lJ(b:Int):Oc Zn Bool:=(BK b).bind λa=>cond (!a.2.1) (Y (Jn,K4,())) (Y (((0:Int),a.1,([]:List Zi),([]:List Zi),([]:List Zi),(-1:Int),KL),Lb,()))
def bq(d:Bool)(a:Int)(b e:av):Oc Zh Bool:=(Q0 a).bind λc=>(gG (!c.1) (a9 b)).bind λf=>(gG ((!c.1)||(!f.1)) (a9 e)).bind λg=>cond (((!c.1)||(!f.1))||(!g.1)) (Y (Zc,K4,())) (Lf cA λh=>Lf xr λi=>(V4 d a).bind λj=>(Y9 d a).bind λk=>(lJ b.1).bind λl=>(ig e.2.1).bind λm=>(ii b.2.1 b.2.2.1).bind λn=>Y ((a,l.1,m.1,i.1,n.1,h.1,j.1,k.1,K4,K4,K4,K4,(0:Int),K4,()),Lb,()))
def Kx(a:List Zh)(c b:Int):Nat:=((a.length:Int)-b).toNat+1
def Kd:Nat->List Zh->Int->Int->Oa Int|0,_,_,_=>Lc|N+1,b,c,a=>cond (La (a<(b.length:Int))) (Ze (0<=a/\a<b.length)<|cond ((b.getD a.toNat Zc).1==c) (Y (a,())) (Kd N b c (K3.wrap (a+1)))) (Y ((-1:Int),()))
def Kc(a:List Zh)(b:Int):Oa Int:=Kd (Kx a b (0:Int)) a b (0:Int)
def Jc(K1:(List Zh×Zh×List Zh×Int×Bool×Int×Unit)->Oa (List Zh))(c:List Zh)(d:Zh)(a:List Zh)(e:Int)(f:Bool)(g:Int)(b:Zh):Oa (List Zh):=Ze (a.length+([b]).length<=Qg)<|K1 (c,d,a++([b]),e,f,K3.wrap (g+1),())
def aF(a:List Zh)(b:Zh)(c:List Zh)(d:Int)(e:Bool)(i8:Int):Nat:=((a.length:Int)-i8).toNat+1
def Ys:Nat->List Zh->Zh->List Zh->Int->Bool->Int->Oa (List Zh)|0,_,_,_,_,_,_=>Lc|N+1,a,b,c,e,d,i8=>cond (La (i8<(a.length:Int))) (Ze (0<=i8/\i8<a.length)<|(kh (a.getD i8.toNat Zc)).bind λf=>cond (i8==e) ((kh b).bind λi=>Jc (λv=>Ys N v.1 v.2.1 v.2.2.1 v.2.2.2.1 v.2.2.2.2.1 v.2.2.2.2.2.1) a b c e d i8 i.1) (Ze (((!d)=Lb->(0<=i8/\i8<a.length)))<|cond ((!d)&&(La ((a.getD i8.toNat Zc).1>b.1))) ((kh b).bind λg=>Ze (c.length+([g.1]).length<=Qg)<|Jc (λv=>Ys N v.1 v.2.1 v.2.2.1 v.2.2.2.1 v.2.2.2.2.1 v.2.2.2.2.2.1) a b (c++([g.1])) e Lb i8 f.1) (Jc (λv=>Ys N v.1 v.2.1 v.2.2.1 v.2.2.2.1 v.2.2.2.2.1 v.2.2.2.2.2.1) a b c e d i8 f.1))) (cond (!d) ((kh b).bind λh=>Ze (c.length+([h.1]).length<=Qg)<|some (c++([h.1]),())) (Y (c,())))
def Xe(b:List Zh)(c:Zh):Oa (List Zh):=(Kc b c.1).bind λa=>Ys (aF b c ([]:List Zh) a.1 (La (a.1>=(0:Int))) (0:Int)) b c ([]:List Zh) a.1 (La (a.1>=(0:Int))) (0:Int)
def Vt(d:Bool)(b i a:Zf)(e:Int)(f:Bool):Od Int Zf Bool:=cond (!f) (Y ((-1:Int),a,K4,())) ((qw e b.1 d).bind λc=>(bq b.1 c.1 b.2.1 b.2.2.1).bind λg=>(Xe (a:Id) g.1).bind λh=>Y (c.1,(tD a h.1),Lb,()))
def Vs(c:Bool)(d e a:Zf)(f:aP):Od Int Zf Bool:=(tf f).bind λb=>cond c (Vt c d e (tM a b.2.1) b.1 b.2.2.1) (Vt c d e (tG a b.2.1) b.1 b.2.2.1)
def ed(a:Zf)(b:Bool):Od Int Zf Bool:=(Qf a).bind λc=>(Ka a).bind λd=>cond ((!d.1)||(La (((a:Id).length:Int)>=(24:Int)))) (Y ((-1:Int),c.1,K4,())) (cond b (Vs b a Xl c.1 (a:Zaq)) (Vs b a Xl c.1 (a:Zar)))
def Xy(b:Zf)(c:Int):Oc Zh Bool:=(Kc (b:Id) c).bind λa=>cond (La (a.1<(0:Int))) (Y (Zc,K4,())) (gH (b:Id) a.1<|(kh (gJ (b:Id) a.1)).bind λd=>Y (d.1,Lb,()))
def wh(a:Q9):Oa Int:=(cE a).bind λb=>cond (!b.1) (Y ((0:Int),())) (Y (min (K3.wrap (a.1- (K3.wrap ((a:Zab)-a.2.1)))) (K3.wrap ((4611686018427387903:Int)-(a:Zab))),()))
def kg(b:Ba)(c d e:Q9)(a i8:Int):Nat:=(a-i8).toNat+1
def Jf:Nat->Ba->Q9->Q9->Q9->Int->Int->Oc Q9 Int|0,_,_,_,_,_,_=>Lc|N+1,d,b,f,a,c,i8=>bif La (i8<c)then Ze (b.1≠0)<|let e:Int:=Ld (K3.wrap ((b:Zab)+i8)) b.1;Ze (0<=i8/\i8<d.length)<|Ze (0<=e/\e<(a:SW).length)<|Jf N d b f (a.1,a.2.1,(a:Zab),(a:SW).set e.toNat (K3.wrap ((d.getD i8.toNat 0).toNat:Int)),a.2.2.2.2) c (K3.wrap (i8+1)) else Y ((a.1,a.2.1,K3.wrap ((b:Zab)+c),a.2.2.2),c,())
def ip(a:Q9)(b:Ba):Oc Q9 Int:=(z9 a).bind λc=>(wh a).bind λd=>Jf (kg b a HG c.1 (min d.1 (b.length:Int)) (0:Int)) b a HG c.1 (min d.1 (b.length:Int)) (0:Int)
def jw(d a:Zn)(b:Q9)(c:Int):Oc Zn Int:=Y ((a.1,b,a.2.2),c,())
def cL(a:Zn)(d:Ba):Oc Zn Int:=(it a).bind λc=>(Km a).bind λe=>cond (((!e.1)||(La (a.1>(1:Int))))||((a:Zam) !=(-1:Int))) (Y (c.1,(0:Int),())) ((ip a.2.1 d).bind λb=>cond (La (b.2.1>(0:Int))) ((cW (a:ST) ((a:Zad),b.1.2.2.1,())).bind λf=>jw Jn (tP c.1 f.1) b.1 b.2.1) (jw Jn c.1 b.1 b.2.1))
def cM(c:Zf)(e:Int)(f:Ba):Oc Int Zf:=(Qf c).bind λa=>(Xy c e).bind λb=>(Ka c).bind λg=>cond (((!g.1)||(!b.2.1))||(!(b:Zbq).1)) (Y ((0:Int),a.1,())) ((cL b.1.2.1 f).bind λd=>(Xe (a:ZaJ) (tT b.1 d.1)).bind λh=>Y (d.2.1,(tD a.1 h.1),()))
def kK(b:Zn):Oc Zn Bool:=(it b).bind λa=>(Km b).bind λc=>cond (((!c.1)||(La (b.1>(1:Int))))||((b:Zam) !=(-1:Int))) (Y (a.1,K4,())) (Y ((a.1.1,a.1.2.1,a.1.2.2.1,a.1.2.2.2.1,a.1.2.2.2.2.1,(b:Zad),(1:Int),a.1.2.2.2.2.2.2.2),Lb,()))
def iT(c:Zf)(e:Int):Oc Zf Bool:=(Qf c).bind λa=>(Xy c e).bind λb=>(Ka c).bind λf=>cond (((!f.1)||(!b.2.1))||(!(b:Zbq).1)) (Y (a.1,K4,())) ((kK b.1.2.1).bind λd=>cond (!d.2.1) (Y (a.1,K4,())) ((Xe (a:ZaJ) (tT b.1 d.1)).bind λg=>Y ((tD a.1 g.1),Lb,())))
def qi(e:Zx)(b:Int):Oc Ba Zx:=(ee e).bind λc=>(qz e).bind λa=>bif(min c.1 (max b (0:Int)))==0 then Y (([]:Ba),a.1,()) else Ze (0<=(0:Int)/\(0:Int)<a.1.2.1.length)<|let d:Int:=K3.wrap (a.1.1+(min c.1 (max b (0:Int))));bif(min c.1 (max b (0:Int)))==((a.1.2.1.getD (0:Int).toNat Qr).2.1.length:Int)then Ze (0<=(1:Int)/\(1:Int)<=a.1.2.1.length)<|(qz (d,a.1.2.1.drop (1:Int).toNat,a.1.2.2)).bind λf=>Y ((a.1.2.1.getD (0:Int).toNat Qr).2.1,f.1,()) else Ze (0<=(min c.1 (max b (0:Int)))/\(min c.1 (max b (0:Int)))<=((a.1.2.1.getD (0:Int).toNat Qr).2.1.length:Int)/\((a.1.2.1.getD (0:Int).toNat Qr).2.1.length:Int)<=(a.1.2.1.getD (0:Int).toNat Qr).2.1.length)<|Ze (0<=(0:Int)/\(0:Int)<a.1.2.1.length)<|Ze (0<=(0:Int)/\(0:Int)<=(min c.1 (max b (0:Int)))/\(min c.1 (max b (0:Int)))<=(a.1.2.1.getD (0:Int).toNat Qr).2.1.length)<|Y (((a.1.2.1.getD (0:Int).toNat Qr).2.1.drop (0:Int).toNat).take ((min c.1 (max b (0:Int))).toNat- (0:Int).toNat),(d,a.1.2.1.set (0:Int).toNat (d,((a.1.2.1.getD (0:Int).toNat Qr).2.1.drop (min c.1 (max b (0:Int))).toNat).take (((a.1.2.1.getD (0:Int).toNat Qr).2.1.length:Int).toNat- (min c.1 (max b (0:Int))).toNat),()),a.1.2.2),())
def cJ(c a:Zz)(b:Ba):Option ((Ba×Zz×Unit)×(Unit)):=Y ((b,a,()),())
def ba(a:Zz)(d:Int):Option ((Ba×Zz×Unit)×(Unit)):=(nO a).bind λb=>(Yj a).bind λe=>cond (!e.1) (Y ((([]:Ba),b.1,()),())) (cond (a.1==4) (Y ((([]:Ba),((5:Int),b.1.2),()),())) ((qi a.2.1 d).bind λc=>cond ((a.1==2)&&(c.2.1.1==(a:Or))) (cJ qq ((3:Int),c.2.1,b.1.2.2) c.1) (cJ qq (b.1.1,c.2.1,b.1.2.2) c.1)))
def lL(a:Qp)(b:Int):Oc Qp Bool:=(bp a).bind λc=>cond (((!c.1)||(La (b<(0:Int))))||(La (b>(K3.wrap ((a:ZaD)-(a:ZaL)))))) (Y (a,K4,())) (Y ((tH a (K3.wrap ((a:ZaL)+b))),Lb,()))
def rH(a:Zf)(b:Zh)(d:Int):Option ((Unit)×(Zf×Zh×Unit)):=let c:Int:=max (0:Int) (K3.wrap (d-(b:ZaY).2.1));(lL (b:Fn) c).bind λe=>(lL (a:Zai) c).bind λf=>Y ((),(a.1,a.2.1,a.2.2.1,(a:Id),(a:Zah),f.1,(a:Zbv).2),(b.1,b.2.1,(b:LE),(b:Fd),e.1,b.2.2.2.2.2),())
def y7(a:Zh):Oa Bool:=Y (((!(a:Zak))||(a.2.1.1==3))||(a.2.1.1==5),())
def sd(a:Zz):Oa Bool:=(Yj a).bind λb=>Y (b.1&&((a.1==3)||(a.1==5)),())
def se(a:Zh):Oa Bool:=(gG (!(a:Zao)) (sd (a:Fd))).bind λb=>Y ((!(a:Zao))||b.1,())
def wg(a:Zh):Oa Bool:=(f7 a).bind λb=>(cond b.1 (y7 a) (Y (K4,()))).bind λc=>(cond (b.1&&c.1) (se a) (Y (K4,()))).bind λd=>Y ((b.1&&c.1)&&d.1,())
def fX(a:Qq):Oc Qq Bool:=(aB a).bind λb=>cond ((!b.1)||((a:ZaC)==a.2.2.1)) (Y (a,K4,())) (Y ((tD a (K3.wrap ((a:ZaC)+1))),Lb,()))
def XT(b:Zf)(a:Zh):Option ((Unit)×(Zf×Zh×Unit)):=(gG (a:Zaw).2.1 (jd b.1 a.1)).bind λc=>(gG ((a:Zaw).2.1||c.1) (wg a)).bind λd=>cond (((a:Zaw).2.1||c.1)||(!d.1)) (Y ((),b,a,())) ((aD a.1).bind λe=>cond e.1 ((fX (b:Zav)).bind λf=>Y ((),(tB b f.1),(tA a Lb),())) ((fX (b:Zay)).bind λg=>Y ((),(tC b g.1),(tA a Lb),())))
def bG(b:Zf)(c:Zh):Option ((Unit)×(Zf×Unit)):=(XT b c).bind λa=>(Xe a.2.1.2.2.2.1 a.2.2.1).bind λd=>Y ((),(tD a.2.1 d.1),())
def bZ(f b:Zf)(c:Zh)(d:Ba)(a:Zz):Option ((Ba×Bool×Zf×Unit)×(Unit)):=(bG b c).bind λe=>Y ((d,(a.1==3)||(a.1==5),e.2.1,()),())
def mH(c:Zf)(f g:Int):Option ((Ba×Bool×Zf×Unit)×(Unit)):=(Qf c).bind λd=>(Xy c f).bind λa=>(Ka c).bind λh=>cond (((!h.1)||(!a.2.1))||(!(a:Zbq).2.1)) (Y ((([]:Ba),K4,d.1,()),())) ((ba a.1.2.2.2.1 g).bind λb=>cond (La (b.1.2.1.1<(4:Int))) ((rH d.1 (tD a.1 b.1.2.1) b.1.2.1.2.1.1).bind λe=>bZ Xl e.2.1 e.2.2.1 b.1.1 b.1.2.1) (bZ Xl d.1 (tD a.1 b.1.2.1) b.1.1 b.1.2.1))
def ru(a:Ba)(c:List Int)(b:Int):Nat:=((a.length:Int)-b).toNat+1
def nF:Nat->Ba->List Int->Int->Oa Ba|0,_,_,_=>Lc|N+1,b,c,a=>cond (La (a<(b.length:Int))) (gH b a<|Ze ((16:Int)≠0)<|gH b a<|Ze ((16:Int)≠0)<|(nJ (K3.wrap (Lg (K3.wrap ((b.getD a.toNat 0).toNat:Int)) (16:Int)))).bind λd=>(nJ (Ld (K3.wrap ((b.getD a.toNat 0).toNat:Int)) (16:Int))).bind λe=>Ze (c.length+([d.1,e.1]).length<=Qg)<|nF N b (c++([d.1,e.1])) (K3.wrap (a+1))) (Y (Xf c,()))
def qd(a:Ba):Oa Ba:=nF (ru a ([]:List Int) (0:Int)) a ([]:List Int) (0:Int)
def xV(b:Int)(a d:Zn)(c:Q9):Oc Zn Bool:=Y (((4:Int),c,([]:List Zi),([]:List Zi),([]:List Zi),(a:Zal),(0:Int),(a:Zal),b,()),Lb,())
def cK(a:Zn)(b:Int):Oc Zn Bool:=(Km a).bind λd=>let c:Bool:=(!d.1)||(La (a.1>(2:Int)));(gG c (Q0 b)).bind λe=>bif c||(!e.1)then(it a).bind λf=>Y (f.1,K4,()) else jj (Ze (0<=a.2.1.1/\a.2.1.1<=a.2.1.1/\a.2.1.1<=Qg)<|ca 1 (xV b a Jn (a.2.1.1,(a:Zal),(a:Zal),Lh a.2.1.1.toNat (0:Int),()) ) ) (Ze (0<=a.2.1.1/\a.2.1.1<=a.2.1.1/\a.2.1.1<=Qg)<|xV b a Jn (a.2.1.1,(a:Zal),(a:Zal),Lh a.2.1.1.toNat (0:Int),()) )
def kU(b:Zf)(e f:Int):Option ((Zf×Bool×Unit)×(Unit)):=(Qf b).bind λc=>(Xy b e).bind λa=>(Ka b).bind λg=>cond (((!g.1)||(!a.2.1))||(!(a:Zbq).1)) (Y ((c.1,K4,()),())) ((cK a.1.2.1 f).bind λd=>cond (!d.2.1) (Y ((c.1,K4,()),())) (Lf (bG c.1 (tW a.1 d.1 Lb)) λh=>Y ((h.2.1,Lb,()),())))
def mJ(c:Zf)(f d:Int):Oc Zf Bool:=(Qf c).bind λb=>(Xy c f).bind λa=>(Ka c).bind λg=>let e:Bool:=((((!g.1)||(!a.2.1))||(!(a:Zbq).2.1))||(a:Zbq).2.2.2.2.2.1)||(La (a.1.2.2.2.1.1>(1:Int)));(gG e (Q0 d)).bind λh=>bif e||(!h.1)then Y (b.1,K4,()) else Lf (Xe (b:ZaJ) (a.1.1,a.1.2.1,a.1.2.2.1,a.1.2.2.2.1,a.1.2.2.2.2.1,a.1.2.2.2.2.2.1,(a:Zbq).1,(a:Zbq).2.1,(a:Zbq).2.2.1,Lb,(a:Zbq).2.2.2.2.1,Lb,d,(a:Zbq).2.2.2.2.2.2.2)) λi=>Y ((tD b.1 i.1),Lb,())
def iq(a:Ba):Nat:=((a.length:Int)- (0:Int)).toNat+1
def jh:Nat->Ba->Oa Ba|0,_=>Lc|N+1,a=>let b:Int:=K3.wrap ((a.length:Int)- (1:Int));Ze (((La ((a.length:Int)>(0:Int)))=Lb->(0<=b/\b<a.length)))<|bif(La ((a.length:Int)>(0:Int)))&&(((a.getD b.toNat 0).toNat:Int)==(32:Int))then let c:Int:=K3.wrap ((a.length:Int)- (1:Int));Ze (0<=(0:Int)/\(0:Int)<=c/\c<=a.length)<|jh N ((a.drop (0:Int).toNat).take (c.toNat- (0:Int).toNat)) else Y (a,())
def nH(a:Ba):Nat:=((a.length:Int)- (0:Int)).toNat+1
def ef:Nat->Ba->Oa Ba|0,_=>Lc|N+1,a=>Ze (((La ((a.length:Int)>(0:Int)))=Lb->(0<=(0:Int)/\(0:Int)<a.length)))<|cond ((La ((a.length:Int)>(0:Int)))&&(((a.getD (0:Int).toNat 0).toNat:Int)==(32:Int))) (Ze (0<=(1:Int)/\(1:Int)<=(a.length:Int)/\(a.length:Int)<=a.length)<|ef N ((a.drop (1:Int).toNat).take ((a.length:Int).toNat- (1:Int).toNat))) (jh (iq a) a)
def xu(a:Ba):Oa Ba:=ef (nH a) a
def Js(K1:(Qz×Qz×List Ba×Int×Unit)->Oa Qz)(a b:Qz)(c:List Ba)(d:Int):Oa Qz:=K1 (a,b,c,K3.wrap (d+1),())
def lH(c d:Qz)(a:List Ba)(b:Int):Nat:=((a.length:Int)-b).toNat+1
def Yq:Nat->Qz->Qz->List Ba->Int->Oa Qz|0,_,_,_,_=>Lc|N+1,c,e,d,b=>bif La (b<(d.length:Int))then gH d b<|(xu (d.getD b.toNat ([]:Ba))).bind λa=>bif(a.1==([105]:Ba))||(a.1==([105,61,63,49]:Ba))then Js (λv=>Yq N v.1 v.2.1 v.2.2.1 v.2.2.2.1) (tT c Lb) e d b else bif a.1==([105,61,63,48]:Ba)then Js (λv=>Yq N v.1 v.2.1 v.2.2.1 v.2.2.2.1) (tT c K4) e d b else Ze ((((a.1.length:Int)==(3:Int))=Lb->(0<=(0:Int)/\(0:Int)<=(2:Int)/\(2:Int)<=a.1.length)))<|let f:Bool:=((a.1.length:Int)==(3:Int))&&(((a.1.drop (0:Int).toNat).take ((2:Int).toNat- (0:Int).toNat))==([117,61]:Ba));Ze ((f=Lb->(0<=(2:Int)/\(2:Int)<a.1.length)))<|let g:Bool:=f&&(La (((a.1.getD (2:Int).toNat 0).toNat:Int)>=(48:Int)));Ze ((g=Lb->(0<=(2:Int)/\(2:Int)<a.1.length)))<|bif g&&(La (((a.1.getD (2:Int).toNat 0).toNat:Int)<=(55:Int)))then Ze (0<=(2:Int)/\(2:Int)<a.1.length)<|Js (λv=>Yq N v.1 v.2.1 v.2.2.1 v.2.2.2.1) (K3.wrap (Le.wrap (((a.1.getD (2:Int).toNat 0).toNat:Int)- (48:Int))),c.2) e d b else Js (λv=>Yq N v.1 v.2.1 v.2.2.1 v.2.2.2.1) c e d b else Y (c,())
def Wo(d:Ba)(a b:Qz):Oa Qz:=(wi d (44:Int)).bind λc=>Yq (lH a b c.1 (0:Int)) a b c.1 (0:Int)
def fK(a:Qz)(b:Ba):Oa Qz:=(bF a).bind λc=>cond (!c.1) (Lf cA λd=>Wo b d.1 ((0:Int),K4,())) (Wo b a ((0:Int),K4,()))
def kV(c:Zf)(d:Int)(e:Ba):Oc Zf Bool:=(Qf c).bind λb=>(Xy c d).bind λa=>(Ka c).bind λf=>cond (((!f.1)||(!a.2.1))||(!(a:Zbq).1)) (Y (b.1,K4,())) ((fK a.1.2.2.2.2.2.1 e).bind λg=>Lf (Xe (b:ZaJ) (tU a.1 g.1)) λh=>Y ((tD b.1 h.1),Lb,()))
def dx(a:Qp):Oa Bool:=(bp a).bind λc=>let b:Bool:=c.1&&(La (a.2.2.1<(4611686018427387903:Int)));Ze ((b=Lb->((2:Int)≠0)))<|Y (b&&(La ((K3.wrap ((K3.wrap ((a:ZaL)+a.1))-a.2.2.1))>=(K3.wrap (Lg (K3.wrap (a.1+1)) (2:Int))))),())
def oI(b:Int)(a c:Qp):Oc Qp Bool:=Y ((a.1,a.2.1,min (K3.wrap ((a:ZaL)+a.1)) (4611686018427387903:Int),(a:ZaD),(a:ZaL),b,a.2.2.2.2.2.2),Lb,())
def cI(a:Qp)(b d:Int):Oc Qp Bool:=(dx a).bind λc=>(gG (!c.1) (Z8 b (a:Zbr) (1000000:Int))).bind λe=>(gG ((!c.1)||(!e.1)) (Z8 d (1:Int) (1000:Int))).bind λf=>cond (((!c.1)||(!e.1))||(!f.1)) (Y (a,K4,())) (cond (La ((K3.wrap (b-(a:Zbr)))<(K3.wrap ((2:Int)*d)))) (oI b (min (K3.wrap ((2:Int)*a.1)) a.2.1,a.2) U7) (oI b a U7))
def tk(a:Zf):Oc Qp Bool:=(dx (a:Zai)).bind λc=>cond c.1 ((cI (a:Zai) (a:ZaT).2.1 (a:Zbu)).bind λb=>Y (b.1,b.2.1,())) (Y ((a:Zai),(a:ZaZ).2.1,()))
def ie(a:Qq):Oa Bool:=(aB a).bind λb=>Ze ((b.1=Lb->((2:Int)≠0)))<|some ((b.1&&(La ((K3.wrap ((K3.wrap ((a:ZaC)+a.1))-a.2.1))>=(K3.wrap (Lg (K3.wrap (a.1+1)) (2:Int))))))&&(La (a.1>(0:Int))),())
def je(a:Qq):Oc Qq Bool:=(ie a).bind λb=>cond ((!b.1)||(La ((K3.wrap ((a:ZaC)+a.1))>1152921504606846976))) (Y (a,K4,())) (Y ((a.1,K3.wrap ((a:ZaC)+a.1),a.2.2),Lb,()))
def gf(a:Qq)(c:Bool):Oc Qq Bool:=(ie a).bind λd=>cond d.1 ((je a).bind λb=>Y (b.1,b.2.1,())) (Y (a,c,()))
def qn(b:Zf)(a:Zh):Oc Qp Bool:=cond (((!(a:Zao))||((a:Zat) !=0))||(a:ZaM)) (Y ((a:Fn),K4,())) ((dx (a:Fn)).bind λd=>cond d.1 ((cI (a:Fn) (b:ZaT).2.1 (b:Zbu)).bind λc=>Y (c.1,c.2.1,())) (Y ((a:Fn),(a:ZaX).1,())))
def yA(a:Qq):Oa Bool:=(J9 a).bind λb=>Y (b.1&&(a.2.2.1==a.1),())
def nL(a:Zh)(b:List Zj):Oa (List Zj):=(yA (a:LE)).bind λd=>bif(d.1&&(a:Zak))&&(La (((a:ZaF).1.length:Int)>(0:Int)))then let c:List Zj:=[((21:Int),a.1,(0:Int),([]:Ba),K4,(0:Int),(a:LE).1,(0:Int),K4,())];Ze (b.length+c.length<=Qg)<|Y (b++c,()) else Y (b,())
def dC(e:Zf)(a:Zh)(b:List Zj):Oa (List Zj):=(qn e a).bind λc=>bif c.2.1 then let d:List Zj:=[((17:Int),a.1,(0:Int),([]:Ba),K4,(0:Int),c.1.2.2.1,(0:Int),K4,())];Ze (b.length+d.length<=Qg)<|nL a (b++d) else nL a b
def dB(c:Zf)(a:Zh)(b:List Zj):Oa (List Zj):=bif (a:ZaS)&&(La ((a:Zat)<(2:Int)))then let d:List Zj:=[((5:Int),a.1,(0:Int),([]:Ba),K4,(a:Zaw).1,(0:Int),(0:Int),K4,())];Ze (b.length+d.length<=Qg)<|dC c a (b++d) else dC c a b
def ql(b:Zf)(a:Zh):Oa (List Zj):=bif (a:ZaE).1 then let c:List Zj:=[((4:Int),a.1,(0:Int),([]:Ba),K4,(a:ZaV).2.2.2.1,(0:Int),(a:Zba),K4,())];Ze (([]:List Zj).length+c.length<=Qg)<|dB b a (([]:List Zj)++c) else dB b a ([]:List Zj)
def eX(a:Zf)(b:List Zj):Oa (List Zj):=bif (a:Zaq).2.2.1==(a:Zaq).1 then let c:List Zj:=[((22:Int),(0:Int),(0:Int),([]:Ba),K4,(0:Int),(a:Zaq).1,(0:Int),Lb,())];Ze (b.length+c.length<=Qg)<|Y (b++c,()) else Y (b,())
def eW(a:Zf)(b:List Zj):Oa (List Zj):=bif (a:Zar).2.2.1==(a:Zar).1 then let c:List Zj:=[((22:Int),(0:Int),(0:Int),([]:Ba),K4,(0:Int),(a:Zar).1,(0:Int),K4,())];Ze (b.length+c.length<=Qg)<|eX a (b++c) else eX a b
def dn(a:Zf)(c:List Zj)(b:Int):Nat:=(((a:Id).length:Int)-b).toNat+1
def Wm:Nat->Zf->List Zj->Int->Oa (List Zj)|0,_,_,_=>Lc|N+1,a,b,c=>bif La (c<((a:Id).length:Int))then Ze (0<=c/\c<(a:Id).length)<|(ql a ((a:Id).getD c.toNat Zc)).bind λd=>Ze (b.length+d.1.length<=Qg)<|Wm N a (b++d.1) (K3.wrap (c+1)) else(yA (a:Zah)).bind λf=>bif f.1 then let e:List Zj:=[((20:Int),(0:Int),(0:Int),([]:Ba),K4,(0:Int),(a:Zah).1,(0:Int),K4,())];Ze (b.length+e.length<=Qg)<|eW a (b++e) else eW a b
def Wl(a:Zf)(b:List Zj):Oa (List Zj):=Wm (dn a b (0:Int)) a b (0:Int)
def Wk(a:Zf)(b:List Zj):Oa (List Zj):=(gf (a:Zav) (a:ZaB).2.1).bind λc=>bif c.2.1 then let d:List Zj:=[((18:Int),(0:Int),(0:Int),([]:Ba),K4,(0:Int),c.1.2.1,(0:Int),Lb,())];Ze (b.length+d.length<=Qg)<|Wl a (b++d) else Wl a b
def Wj(a:Zf)(b:List Zj):Oa (List Zj):=(gf (a:Zay) (a:ZaB).1).bind λc=>bif c.2.1 then let d:List Zj:=[((18:Int),(0:Int),(0:Int),([]:Ba),K4,(0:Int),c.1.2.1,(0:Int),K4,())];Ze (b.length+d.length<=Qg)<|Wk a (b++d) else Wk a b
def fC(a:Zf):Oa (List Zj):=(Ka a).bind λd=>bif !d.1 then Y (([]:List Zj),()) else(tk a).bind λb=>bif b.2.1 then let c:List Zj:=[((16:Int),(0:Int),(0:Int),([]:Ba),K4,(0:Int),b.1.2.2.1,(0:Int),K4,())];Ze (([]:List Zj).length+c.length<=Qg)<|Wj a (([]:List Zj)++c) else Wj a ([]:List Zj)
def kr(a:Int):Oa Int:=cond ((La (a<(0:Int)))||(La (a>(4611686018427387903:Int)))) (Y ((0:Int),())) (cond (La (a<(64:Int))) (Y ((1:Int),())) (cond (La (a<(16384:Int))) (Y ((2:Int),())) (cond (La (a<(1073741824:Int))) (Y ((4:Int),())) (Y ((8:Int),())))))
def Qc3(c a:Int)(d:Ba)(b:Int):Nat:=(a-b).toNat+1
def Yy:Nat->Int->Int->Ba->Int->Oa Ba|0,_,_,_,_=>Lc|N+1,a,c,b,d=>bif La (d<c)then Ze ((256:Int)≠0)<|let e:Ba:=Xf ([(Le.wrap (Ld a (256:Int)))]);Ze (e.length+b.length<=Ym)<|Ze ((256:Int)≠0)<|Yy N (K3.wrap (Lg a (256:Int))) c (e++b) (K3.wrap (d+1)) else bif La (a>(0:Int))then Y (([]:Ba),()) else Y (b,())
def qc(a b:Int):Oa Ba:=(Z8 b (1:Int) (7:Int)).bind λc=>cond ((!c.1)||(La (a<(0:Int)))) (Y (([]:Ba),())) (Yy (Qc3 a b ([]:Ba) (0:Int)) a b ([]:Ba) (0:Int))
def eh(a:Int):Oa Ba:=(qc (bits .and .i64 a (255:Int)) (1:Int)).bind λb=>Y (b.1,())
def Yv(K1:(Int×Int×Ba×Int×Unit)->Oa Ba)(c d:Int)(a:Ba)(e f:Int):Oa Ba:=(eh f).bind λb=>Ze (a.length+b.1.length<=Ym)<|K1 (c,d,a++b.1,K3.wrap (e-1),())
def J4(b c:Int)(d:Ba)(a:Int):Nat:=(a-0).toNat+2
def Qs:Nat->Int->Int->Ba->Int->Oa Ba|0,_,_,_,_=>Lc|N+1,c,a,d,b=>bif La (b>=(0:Int))then Ze (0<=(K3.wrap ((8:Int)*b)))<|let e:Int:=bits .and .i64 (c.fdiv (2^ (min (K3.wrap ((8:Int)*b)).toNat K3.bits))) (255:Int);bif b==(K3.wrap (a-1))then bif a==2 then Yv (λv=>Qs N v.1 v.2.1 v.2.2.1 v.2.2.2.1) c a d b (bits .or .i64 e (64:Int)) else bif a==4 then Yv (λv=>Qs N v.1 v.2.1 v.2.2.1 v.2.2.2.1) c a d b (bits .or .i64 e (128:Int)) else bif a==8 then Yv (λv=>Qs N v.1 v.2.1 v.2.2.1 v.2.2.2.1) c a d b (bits .or .i64 e (192:Int)) else Yv (λv=>Qs N v.1 v.2.1 v.2.2.1 v.2.2.2.1) c a d b e else Yv (λv=>Qs N v.1 v.2.1 v.2.2.1 v.2.2.2.1) c a d b e else Y (d,())
def V5(b:Int):Oa Ba:=(kr b).bind λa=>Qs (J4 b a.1 ([]:Ba) (K3.wrap (a.1-1))) b a.1 ([]:Ba) (K3.wrap (a.1-1))
def fY(a:List Int)(c:Ba)(b:Int):Nat:=((a.length:Int)-b).toNat+1
def Jv:Nat->List Int->Ba->Int->Oa Ba|0,_,_,_=>Lc|N+1,b,c,a=>cond (La (a<(b.length:Int))) (gH b a<|(kr (b.getD a.toNat (0:Int))).bind λe=>cond (e.1==0) (Y (([]:Ba),())) (gH b a<|(V5 (b.getD a.toNat (0:Int))).bind λd=>Ze (c.length+d.1.length<=Ym)<|Jv N b (c++d.1) (K3.wrap (a+1)))) (Y (c,()))
def Xt(a:List Int):Oa Ba:=Jv (fY a ([]:Ba) (0:Int)) a ([]:Ba) (0:Int)
def We(a:Zj)(b:Int):Oa Ba:=cond ((a:LT)==0) ((Xt ([b,a.2.1,((a:IO).length:Int)])).bind λc=>Ze (c.1.length+(a:IO).length<=Ym)<|some (c.1++(a:IO),())) ((Xt ([(K3.wrap (b+4)),a.2.1,(a:LT),((a:IO).length:Int)])).bind λd=>Ze (d.1.length+(a:IO).length<=Ym)<|some (d.1++(a:IO),()))
def Wf(a:Zj)(b:Int):Oa Ba:=(Xt ([b,(a:Zan)])).bind λc=>Y (c.1,())
def Yz(a:Zj)(b:Bool):Oa Ba:=cond b ((Xt ([a.1,a.2.1,(a:Zan)])).bind λc=>Y (c.1,())) (cond (a:ZaA) (Wf a (K3.wrap (a.1+1))) (Wf a a.1))
def Xd(a:Zj)(b:Int)(c:Bool):Oa Ba:=cond c ((Xt ([a.1,(a:Zan)])).bind λd=>Y (d.1,())) (cond (b==17) (Yz a (b==17)) (Yz a (b==21)))
def az(a:Zj):Oa Ba:=(aC a).bind λb=>cond (!b.1) (Y (([]:Ba),())) (cond (a.1==4) ((Xt ([(4:Int),a.2.1,(a:Zap),(a:Zax)])).bind λc=>Y (c.1,())) (cond (a.1==5) ((Xt ([(5:Int),a.2.1,(a:Zap)])).bind λd=>Y (d.1,())) (cond (a.1==8) (cond (a:Zas) (We a (K3.wrap ((10:Int)+(1:Int)))) (We a (10:Int))) (cond (a.1==16) (Xd a a.1 (a.1==16)) (Xd a a.1 (a.1==20))))))
def lD(a:Zj):Oa Int:=(az a).bind λb=>Y ((b.1.length:Int),())
def iR(a:Qq):Oa Qq:=(J9 a).bind λb=>cond (b.1&&(a.2.2.1 !=(-1:Int))) (Y ((a.1,a.2.1,(-1:Int),a.2.2.1,a.2.2.2.2),())) (Y (a,()))
def U5(d:Zf)(a:Zh)(b:Int):Option ((Zh×Unit)×(Unit)):=cond (b==4) (Y (((tC a K4),()),())) (cond (b==5) (Y (((tB a K4),()),())) (cond (b==17) ((qn d a).bind λc=>cond c.2.1 (Y (((a.1,a.2.1,(a:LE),(a:Fd),c.1,(a:Zaz),(a:Zak),(a:Zao),(a:ZaE).1,(a:ZaS),K4,(a:ZaX).2),()),())) (Y (((tE a K4),()),()))) (cond (b==21) ((iR (a:LE)).bind λe=>Y (((tP a e.1),()),())) (Y ((a,()),())))))
def xp(b:Zf)(c:Zj):Oa Zf:=(Qf b).bind λa=>(Ky b).bind λe=>cond (!e.1) (Y (a.1,())) (cond (c.1==16) ((tk b).bind λf=>Y ((tX a.1 f.1 K4),())) (cond (c.1==18) (cond (c:ZaA) ((gf (b:Zav) K4).bind λg=>Y ((tS a.1 g.1 K4),())) ((gf (b:Zay) K4).bind λh=>Y ((tV a.1 h.1 K4),()))) (cond (c.1==20) ((iR (b:Zah)).bind λi=>Y ((tH a.1 i.1),())) (cond (c.1==22) (cond (c:ZaA) (Y ((tM a.1 (tP a.1.2.2.2.2.2.2.2.1 (-1:Int))),())) (Y ((tG a.1 (tP a.1.2.2.2.2.2.2.1 (-1:Int))),()))) ((Xy b c.2.1).bind λd=>cond d.2.1 ((U5 b d.1 c.1).bind λj=>(Xe (a:ZaJ) j.1.1).bind λk=>Y ((tD a.1 k.1),())) (Y (a.1,())))))))
def rJ(K1:(Zf×List Zp×Int×Unit)->Oa (List Zp))(a:Zf)(b:List Zp)(c:Int):Oa (List Zp):=K1 (a,b,K3.wrap (c+1),())
def qm(a:Zf)(c:List Zp)(b:Int):Nat:=(((a:Id).length:Int)-b).toNat+1
def fM:Nat->Zf->List Zp->Int->Oa (List Zp)|0,_,_,_=>Lc|N+1,b,c,a=>bif La (a<((b:Id).length:Int))then gH (b:Id) a<|bif((gJ (b:Id) a:Zak)&&(La ((gJ (b:Id) a).2.1.1<(3:Int))))&&((La (((gJ (b:Id) a:ZaF).1.length:Int)>(0:Int)))||((gJ (b:Id) a:ZaV).2.1==1))then let d:List Zp:=[((gJ (b:Id) a).1,(gJ (b:Id) a:Zaz),())];Ze (c.length+d.length<=Qg)<|rJ (λv=>fM N v.1 v.2.1 v.2.2.1) b (c++d) a else rJ (λv=>fM N v.1 v.2.1 v.2.2.1) b c a else Y (c,())
def zc(a:Zf):Oa (List Zp):=fM (qm a ([]:List Zp) (0:Int)) a ([]:List Zp) (0:Int)
def fN(K1:(List Zp×Int×List Zp×Int×Unit)->Oa (List Zp))(a:List Zp)(b:Int)(c:List Zp)(d:Int):Oa (List Zp):=K1 (a,b,c,K3.wrap (d+1),())
def iZ(a:List Zp)(c:Int)(d:List Zp)(b:Int):Nat:=((a.length:Int)-b).toNat+1
def Vw:Nat->List Zp->Int->List Zp->Int->Oa (List Zp)|0,_,_,_,_=>Lc|N+1,b,d,c,a=>cond (La (a<(b.length:Int))) (gH b a<|cond ((gM b a).1 !=d) (gH b a<|Ze (c.length+([(gM b a)]).length<=Qg)<|fN (λv=>Vw N v.1 v.2.1 v.2.2.1 v.2.2.2.1) b d (c++([(gM b a)])) a) (fN (λv=>Vw N v.1 v.2.1 v.2.2.1 v.2.2.2.1) b d c a)) (Y (c,()))
def mK(a:List Zp)(b:Int):Oa (List Zp):=Vw (iZ a b ([]:List Zp) (0:Int)) a b ([]:List Zp) (0:Int)
def dl(a:List Zp)(b:Int):Nat:=((a.length:Int)-b).toNat+1
def bg:Nat->List Zp->Int->Oa Bool|0,_,_=>Lc|N+1,b,a=>cond (La (a<(b.length:Int))) (gH b a<|(Q0 (gM b a).1).bind λc=>Ze (((!c.1)=K4->(0<=a/\a<b.length)))<|(gG (!c.1) (bF (gM b a).2.1)).bind λd=>Ze ((((!c.1)||(!d.1))=K4->((La (a>(0:Int)))=Lb->(0<=a/\a<b.length))))<|Ze ((((!c.1)||(!d.1))=K4->((La (a>(0:Int)))=Lb->(0<=(K3.wrap (a-1))/\(K3.wrap (a-1))<b.length))))<|cond (((!c.1)||(!d.1))||((La (a>(0:Int)))&&(La ((gM b a).1<=(b.getD (K3.wrap (a-1)).toNat Qo).1)))) (Y (K4,())) (bg N b (K3.wrap (a+1)))) (Y (Lb,()))
def rq(a:List Zp):Oa Bool:=bg (dl a (0:Int)) a (0:Int)
def rz(K1:(List Zp×List Int×Int×Int×Unit)->Oa (List Int))(a:List Zp)(b:List Int)(c d:Int):Oa (List Int):=K1 (a,b,c,K3.wrap (d+1),())
def rA(K1:(List Zp×List Int×Int×Int×Unit)->Oa (List Int))(b:List Zp)(c:List Int)(d a:Int):Oa (List Int):=gH b a<|cond ((gM b a).2.1.1==d) (gH b a<|Ze (c.length+([(gM b a).1]).length<=Qg)<|rz K1 b (c++([(gM b a).1])) d a) (rz K1 b c d a)
def cH(a:List Zp)(c:List Int)(d b:Int):Nat:=((a.length:Int)-b).toNat+1
def ai:Nat->List Zp->List Int->Int->Int->Oa (List Int)|0,_,_,_,_=>Lc|N+1,b,c,d,a=>(cond (La (a<(b.length:Int))) (rq b) (Y (K4,()))).bind λe=>cond ((La (a<(b.length:Int)))&&e.1) (Ze (0<=a/\a<b.length)<|cond (La ((b.getD a.toNat Qo).2.1.1<d)) (Ze (0<=a/\a<b.length)<|rA (λv=>ai N v.1 v.2.1 v.2.2.1 v.2.2.2.1) b ([]:List Int) (b.getD a.toNat Qo).2.1.1 a) (rA (λv=>ai N v.1 v.2.1 v.2.2.1 v.2.2.2.1) b c d a)) (Y (c,()))
def y8(a:List Zp):Oa (List Int):=ai (cH a ([]:List Int) (8:Int) (0:Int)) a ([]:List Int) (8:Int) (0:Int)
def l8(a:List Int)(c b:Int):Nat:=((a.length:Int)-b).toNat+1
def kW:Nat->List Int->Int->Int->Oa Int|0,_,_,_=>Lc|N+1,a,c,b=>cond (La (b<(a.length:Int))) (gH a b<|cond (La ((a.getD b.toNat (0:Int))>c)) (gH a b<|some (a.getD b.toNat (0:Int),())) (kW N a c (K3.wrap (b+1)))) (cond ((a.length:Int)==(0:Int)) (Y ((-1:Int),())) (Ze (0<=(0:Int)/\(0:Int)<a.length)<|some (a.getD (0:Int).toNat (0:Int),())))
def JI(a:List Int)(b:Int):Oa Int:=kW (l8 a b (0:Int)) a b (0:Int)
def rB(K1:(List Zp×Int×List Int×List Int×Int×Unit)->Oa Int)(K2:(List Zp×Int×List Int×List Int×Int×Int×Unit)->Oa Int)(a:List Zp)(b:Int)(c d:List Int)(e f:Int):Oa Int:=K2 (a,b,c,d,e,K3.wrap (f+1),())
def iX(c:List Zp)(d:Int)(a e:List Int)(f b:Int):Nat:=((a.length:Int)-b).toNat+1
def bY(K1:(List Zp×Int×List Int×List Int×Int×Unit)->Oa Int):Nat->List Zp->Int->List Int->List Int->Int->Int->Oa Int|0,_,_,_,_,_,_=>Lc|N+1,b,f,d,e,a,c=>bif La (c<(d.length:Int))then gH d c<|gH b a<|let g:Bool:=(d.getD c.toNat (0:Int))==(gM b a).1;Ze ((g=Lb->(0<=a/\a<b.length)))<|bif g&&(!(gM b a).2.1.2.1)then gH b a<|Y ((gM b a).1,()) else gH d c<|gH b a<|bif(d.getD c.toNat (0:Int))==(gM b a).1 then gH b a<|Ze (e.length+([(gM b a).1]).length<=Qg)<|rB K1 (λv=>bY K1 N v.1 v.2.1 v.2.2.1 v.2.2.2.1 v.2.2.2.2.1 v.2.2.2.2.2.1) b f d (e++([(gM b a).1])) a c else rB K1 (λv=>bY K1 N v.1 v.2.1 v.2.2.1 v.2.2.2.1 v.2.2.2.2.1 v.2.2.2.2.2.1) b f d e a c else K1 (b,f,d,e,K3.wrap (a+1),())
def iW(a:List Zp)(c:Int)(d e:List Int)(b:Int):Nat:=((a.length:Int)-b).toNat+1
def bX:Nat->List Zp->Int->List Int->List Int->Int->Oa Int|0,_,_,_,_,_=>Lc|N+1,a,b,e,c,d=>cond (La (d<(a.length:Int))) (bY (λv=>bX N v.1 v.2.1 v.2.2.1 v.2.2.2.1 v.2.2.2.2.1) (iX a b e c d (0:Int)) a b e c d (0:Int)) ((JI c b).bind λf=>Y (f.1,()))
def y9(a:List Zp)(b:Int):Oa Int:=(y8 a).bind λc=>bX (iW a b c.1 ([]:List Int) (0:Int)) a b c.1 ([]:List Int) (0:Int)
def sb(a:Qq):Oa Int:=(J9 a).bind λb=>cond (!b.1) (Y ((0:Int),())) (Y (K3.wrap (a.1-a.2.1),()))
def uo(c a:Int)(d:Q9)(e:Ba)(b:Int):Nat:=(a-b).toNat+1
def qg:Nat->Int->Int->Q9->Ba->Int->Oc Ba Bool|0,_,_,_,_,_=>Lc|N+1,e,f,a,b,c=>bif La (c<f)then Ze (a.1≠0)<|let d:Int:=Ld (K3.wrap (e+c)) a.1;gH (a:SW) d<|(eh ((a:SW).getD d.toNat (0:Int))).bind λg=>Ze (b.length+g.1.length<=Ym)<|qg N e f a (b++g.1) (K3.wrap (c+1)) else Y (b,Lb,())
def tj(a:Q9)(b c:Int):Oc Ba Bool:=(cE a).bind λd=>cond (((((!d.1)||(La (b<a.2.1)))||(La (c<(0:Int))))||(La (b>(a:Zab))))||(La (c>(K3.wrap ((a:Zab)-b))))) (Y (([]:Ba),K4,())) (qg (uo b c a ([]:Ba) (0:Int)) b c a ([]:Ba) (0:Int))
def nG(c:Zn)(f d:Qj)(a:Zi)(b:Int):Oc Qj Bool:=cond (La (b<=a.1)) (Y (iu,K4,())) ((tj c.2.1 a.1 (K3.wrap (b-a.1))).bind λe=>Y ((a.1,e.1,d.2.2.1&&(b==(c:Zam)),()),Lb,()))
def XP(a:Zn)(c d:Int):Oc Qj Bool:=(Km a).bind λe=>bif(!e.1)||(La (a.1>(2:Int)))then Y (iu,K4,()) else bif La (((a:ST).length:Int)>(0:Int))then Ze (0<=(0:Int)/\(0:Int)<(a:ST).length)<|let b:Int:=min ((a:ST).getD (0:Int).toNat Z3).2.1 d;bif La (b<=((a:ST).getD (0:Int).toNat Z3).1)then Y (iu,K4,()) else bif La (c<(K3.wrap (b- ((a:ST).getD (0:Int).toNat Z3).1)))then nG a iu ((a:Zam),([]:Ba),(a:Zaf)==1,()) ((a:ST).getD (0:Int).toNat Z3) (K3.wrap (((a:ST).getD (0:Int).toNat Z3).1+(max c (0:Int)))) else nG a iu ((a:Zam),([]:Ba),(a:Zaf)==1,()) ((a:ST).getD (0:Int).toNat Z3) b else bif !((a:Zaf)==1)then Y (iu,K4,()) else Y (((a:Zam),([]:Ba),(a:Zaf)==1,()),Lb,())
def sj(b:Int)(a:Qj):Oa Zj:=Y (((8:Int),b,a.1,a.2.1,a.2.2.1,(0:Int),(0:Int),(0:Int),K4,()),())
def uq(b c:Int)(d:Qj)(e:Zh)(f a:Int):Nat:=(a-0).toNat+1
def kS:Nat->Int->Int->Qj->Zh->Int->Int->Oc Qj Bool|0,_,_,_,_,_,_=>Lc|N+1,c,d,g,e,f,a=>cond (La (a>(0:Int))) ((XP e.2.1 a f).bind λb=>cond (!b.2.1) (Y (iu,K4,())) ((sj c b.1).bind λh=>(lD h.1).bind λi=>cond (La (i.1<=d)) (Y (b.1,Lb,())) (kS N c d g e f (K3.wrap (a-1))))) (Y (iu,K4,()))
def JH(c:Zf)(d b:Int):Oc Qj Bool:=(Xy c d).bind λa=>(Ky c).bind λf=>bif(((!f.1)||(!a.2.1))||(!(a:Zbq).1))||(La (b<(3:Int)))then Y (iu,K4,()) else(sb (c:Zah)).bind λg=>let e:Int:=min a.1.2.2.1.1 (K3.wrap (a.1.2.1.2.2.2.2.2.2.2.1+g.1));kS (uq d b iu a.1 e (min b (60:Int))) d b iu a.1 e (min b (60:Int))
def kQ(a:Qq):Oa Qq:=(J9 a).bind λb=>cond (((b.1&&(a.2.1==a.1))&&(a.2.2.1==(-1:Int)))&&((a:ZaC) !=a.1)) (Y ((a.1,a.2.1,a.1,a.2.2.2),())) (Y (a,()))
def JJ(a:Zf)(c:Int):Option ((Unit)×(Zf×Unit)):=(Xy a c).bind λb=>(kQ b.1.2.2.1).bind λd=>(kQ (a:Zah)).bind λe=>(Xe (a:Id) (tP b.1 d.1)).bind λf=>Y ((),(a.1,a.2.1,a.2.2.1,f.1,e.1,(a:Zbv)),())
def xy(b:Zn)(a:Qj):Oa Bool:=Y ((((La (a.1>=(0:Int)))&&(La (a.1<=(b:Zad))))&&(La ((a.2.1.length:Int)<=(K3.wrap ((b:Zad)-a.1)))))&&((!a.2.2.1)||(((b:Zam) !=(-1:Int))&&((K3.wrap (a.1+(a.2.1.length:Int)))==(b:Zam)))),())
def ki(a:Qj):Oa Zi:=Y ((a.1,K3.wrap (a.1+(a.2.1.length:Int)),()),())
def nE(K1:(List Zi×List Zi×List Zi×Int×Unit)->Oa (List Zi))(K2:(List Zi×List Zi×List Zi×Int×Int×Unit)->Oa (List Zi))(a b c:List Zi)(d e:Int):Oa (List Zi):=K2 (a,b,c,d,K3.wrap (e+1),())
def wd(K1:(List Zi×List Zi×List Zi×Int×Unit)->Oa (List Zi))(K2:(List Zi×List Zi×List Zi×Int×Int×Unit)->Oa (List Zi))(c d b:List Zi)(e f:Int)(a:Zi):Oa (List Zi):=cond (La (a.1<a.2.1)) (Ze (b.length+([a]).length<=Qg)<|nE K1 K2 c d (b++([a])) e f) (nE K1 K2 c d b e f)
def eD(c a d:List Zi)(e b:Int):Nat:=((a.length:Int)-b).toNat+1
def cy(K1:(List Zi×List Zi×List Zi×Int×Unit)->Oa (List Zi)):Nat->List Zi->List Zi->List Zi->Int->Int->Oa (List Zi)|0,_,_,_,_,_=>Lc|N+1,d,c,e,a,b=>bif La (b<(c.length:Int))then Ze (0<=a/\a<d.length)<|Ze (0<=b/\b<c.length)<|let f:Int:=max (d.getD a.toNat Z3).1 (c.getD b.toNat Z3).1;Ze (0<=a/\a<d.length)<|Ze (0<=b/\b<c.length)<|let g:Int:=min (d.getD a.toNat Z3).2.1 (c.getD b.toNat Z3).2.1;ca 1 (wd K1 (λv=>cy K1 N v.1 v.2.1 v.2.2.1 v.2.2.2.1 v.2.2.2.2.1) d c e a b (f,g,()) ) else K1 (d,c,e,K3.wrap (a+1),())
def eB(a c d:List Zi)(b:Int):Nat:=((a.length:Int)-b).toNat+1
def af:Nat->List Zi->List Zi->List Zi->Int->Oa (List Zi)|0,_,_,_,_=>Lc|N+1,a,c,d,b=>(cond (La (b<(a.length:Int))) (V9 a) (Y (K4,()))).bind λf=>let e:Bool:=(La (b<(a.length:Int)))&&f.1;(cond e (V9 c) (Y (K4,()))).bind λg=>bif e&&g.1 then cy (λv=>af N v.1 v.2.1 v.2.2.1 v.2.2.2.1) (eD a c d b (0:Int)) a c d b (0:Int) else Y (d,())
def dm(a b:List Zi):Oa (List Zi):=af (eB a b ([]:List Zi) (0:Int)) a b ([]:List Zi) (0:Int)
def oJ(K1:(List Zi×Zi×List Zi×Int×Unit)->Oa (List Zi))(a:List Zi)(b:Zi)(c:List Zi)(d:Int):Oa (List Zi):=K1 (a,b,c,K3.wrap (d+1),())
def jv(K1:(List Zi×Zi×List Zi×Int×Unit)->Oa (List Zi))(b:List Zi)(c:Zi)(d:List Zi)(a:Int):Oa (List Zi):=gH b a<|gH b a<|bif La ((max (gK b a).1 c.2.1)<(gK b a).2.1)then gH b a<|gH b a<|let e:List Zi:=[(max (gK b a).1 c.2.1,(gK b a).2.1,())];Ze (d.length+e.length<=Qg)<|oJ K1 b c (d++e) a else oJ K1 b c d a
def ge(a:List Zi)(c:Zi)(d:List Zi)(b:Int):Nat:=((a.length:Int)-b).toNat+1
def Wh:Nat->List Zi->Zi->List Zi->Int->Oa (List Zi)|0,_,_,_,_=>Lc|N+1,b,c,d,a=>bif La (a<(b.length:Int))then Ze (0<=a/\a<b.length)<|Ze (0<=a/\a<b.length)<|bif La ((b.getD a.toNat Z3).1<(min (b.getD a.toNat Z3).2.1 c.1))then Ze (0<=a/\a<b.length)<|Ze (0<=a/\a<b.length)<|let e:List Zi:=[((b.getD a.toNat Z3).1,min (b.getD a.toNat Z3).2.1 c.1,())];Ze (d.length+e.length<=Qg)<|jv (λv=>Wh N v.1 v.2.1 v.2.2.1 v.2.2.2.1) b c (d++e) a else jv (λv=>Wh N v.1 v.2.1 v.2.2.1 v.2.2.2.1) b c d a else Y (d,())
def kT(a:List Zi)(b:Zi):Oa (List Zi):=(V9 a).bind λc=>(gG (!c.1) (VH b)).bind λd=>cond ((!c.1)||(!d.1)) ((qy a).bind λe=>Y (e.1,())) (Wh (ge a b ([]:List Zi) (0:Int)) a b ([]:List Zi) (0:Int))
def iY(c a:Zn):Oc Zn Bool:=(dF a).bind λb=>Y ((b.1,a.2),Lb,())
def dz(c:Qj)(b a:Zn):Oc Zn Bool:=cond c.2.2.1 (iY b (tG a (2:Int))) (iY b a)
def qh(a:Zn)(c:Qj):Oc Zn Bool:=(it a).bind λb=>(Km a).bind λg=>let f:Bool:=(!g.1)||(La (a.1>(2:Int)));(gG f (xy a c)).bind λh=>bif((f||(!h.1))||((c.2.1==([]:Ba))&&(!c.2.2.1)))||(c.2.2.1&&((a:Zaf) !=1))then Y (b.1,K4,()) else bif !(c.2.1==([]:Ba))then(ki c).bind λd=>(dm (a:ST) ([d.1])).bind λe=>Ze ((((e.1.length:Int) !=(1:Int))=K4->(0<=(0:Int)/\(0:Int)<e.1.length)))<|bif((e.1.length:Int) !=(1:Int))||(!(TR Zw (e.1.getD (0:Int).toNat Z3) d.1))then Y (b.1,K4,()) else(kT (a:ST) d.1).bind λi=>(cW (a:Zae) d.1).bind λj=>dz c Jn (b.1.1,b.1.2.1,i.1,j.1,b.1.2.2.2.2.1,b.1.2.2.2.2.2.1,b.1.2.2.2.2.2.2.1,max (a:Zal) d.1.2.1,b.1.2.2.2.2.2.2.2.2) else dz c Jn b.1
def lM(a:Qq)(b:Int):Oc Qq Bool:=(J9 a).bind λc=>cond (((!c.1)||(La (b<(0:Int))))||(La (b>(K3.wrap (a.1-a.2.1))))) (Y (a,K4,())) (Y ((a.1,K3.wrap (a.2.1+b),a.2.2),Lb,()))
def XO(c:Zf)(e:Int)(h:Qj):Oc Zf Bool:=(Qf c).bind λa=>(Xy c e).bind λb=>(Ky c).bind λi=>cond (((!i.1)||(!b.2.1))||(!(b:Zbq).1)) (Y (a.1,K4,())) ((qh b.1.2.1 h).bind λd=>(lM b.1.2.2.1 (K3.wrap (d.1.2.2.2.2.2.2.2.1-b.1.2.1.2.2.2.2.2.2.2.1))).bind λf=>(lM (c:Zah) (K3.wrap (d.1.2.2.2.2.2.2.2.1-b.1.2.1.2.2.2.2.2.2.2.1))).bind λg=>cond (((!d.2.1)||(!f.2.1))||(!g.2.1)) (Y (a.1,K4,())) ((Xe (a:ZaJ) (b.1.1,d.1,f.1,b.1.2.2.2)).bind λj=>Y ((tQ a.1 j.1 g.1 e),Lb,())))
def sm(K1:(Zf×List Zj×Int×List Int×Int×Unit)->Option ((List Zj×Unit)×(Zf×Unit)))(a:Zf)(b:List Zj)(c:Int)(d:List Int)(e:Int):Option ((List Zj×Unit)×(Zf×Unit)):=K1 (a,b,c,d,K3.wrap (e+1),())
def WM(K1:(Zf×List Zj×Int×List Int×Int×Unit)->Option ((List Zj×Unit)×(Zf×Unit)))(c:Zf)(a:List Zj)(d:Int)(e:List Int)(f g:Int)(h:Qj)(i:Zf)(j:Bool):Option ((List Zj×Unit)×(Zf×Unit)):=cond (!j) (Y ((a,()),c,())) ((sj g h).bind λb=>Ze (a.length+([b.1]).length<=Qg)<|(lD b.1).bind λk=>sm K1 i (a++([b.1])) (K3.wrap (d-k.1)) e f)
def wm(c:Zf)(d:List Zj)(e:Int)(a:List Int)(f:Int)(g:List Zp)(b:Int):Nat:=((a.length:Int)-b).toNat+1
def sn(K1:(Zf×List Zj×Int×List Int×Int×Unit)->Option ((List Zj×Unit)×(Zf×Unit))):Nat->Zf->List Zj->Int->List Int->Int->List Zp->Int->Option ((List Zj×Unit)×(Zf×Unit))|0,_,_,_,_,_,_,_=>Lc|N+1,a,e,f,b,g,i,d=>cond (La (d<(b.length:Int))) (gH b d<|(mK i (b.getD d.toNat (0:Int))).bind λk=>sn K1 N a e f b g k.1 (K3.wrap (d+1))) ((y9 i (a:ZaN).1).bind λc=>cond (La (c.1<(0:Int))) (Y ((e,()),a,())) ((JH a c.1 f).bind λh=>cond (!h.2.1) ((JJ a c.1).bind λl=>Ze (b.length+([c.1]).length<=Qg)<|sm K1 l.2.1 e f (b++([c.1])) g) (ca 1 ((XO a c.1 h.1).bind λj=>WM K1 a e f b g c.1 h.1 j.1 j.2.1))))
def wl(b:Zf)(a:List Zj)(c:Int)(d:List Int)(i8:Int):Nat:=((200:Int)-i8).toNat+1+0*a.length
def ji:Nat->Zf->List Zj->Int->List Int->Int->Option ((List Zj×Unit)×(Zf×Unit))|0,_,_,_,_,_=>Lc|N+1,a,b,c,d,i8=>cond (La (i8<(200:Int))) ((zc a).bind λe=>sn (λv=>ji N v.1 v.2.1 v.2.2.1 v.2.2.2.1 v.2.2.2.2.1) (wm a b c d i8 e.1 (0:Int)) a b c d i8 e.1 (0:Int)) (Y ((b,()),a,()))
def Bv(a:Zf)(b:List Zj)(c:Int):Option ((List Zj×Unit)×(Zf×Unit)):=ji (wl a b c ([]:List Int) (0:Int)) a b c ([]:List Int) (0:Int)
def dp(a:List Zj)(c:Ba)(b:Int):Nat:=((a.length:Int)-b).toNat+1
def Yp:Nat->List Zj->Ba->Int->Oa Ba|0,_,_,_=>Lc|N+1,b,c,a=>cond (La (a<(b.length:Int))) (Ze (0<=a/\a<b.length)<|(az (b.getD a.toNat Z9)).bind λd=>cond (d.1==([]:Ba)) (Y (([]:Ba),())) (Ze (c.length+d.1.length<=Ym)<|Yp N b (c++d.1) (K3.wrap (a+1)))) (cond (La ((c.length:Int)>(400:Int))) (Y (([]:Ba),())) (Y (c,())))
def bU(a:List Zj):Oa Ba:=Yp (dp a ([]:Ba) (0:Int)) a ([]:Ba) (0:Int)
def rr(K1:(Zf×Zf×Zf×List Zj×Int×List Zj×Int×Unit)->Option ((Ba×Int×Zf×Unit)×(Unit)))(a b c:Zf)(d:List Zj)(e:Int)(f:List Zj)(g:Int):Option ((Ba×Int×Zf×Unit)×(Unit)):=K1 (a,b,c,d,e,f,K3.wrap (g+1),())
def iS(c d e:Zf)(f:List Zj)(g:Int)(a:List Zj)(b:Int):Nat:=((a.length:Int)-b).toNat+1
def Vp:Nat->Zf->Zf->Zf->List Zj->Int->List Zj->Int->Option ((Ba×Int×Zf×Unit)×(Unit))|0,_,_,_,_,_,_,_=>Lc|N+1,d,h,g,e,f,c,b=>cond (La (b<(c.length:Int))) (Ze (0<=b/\b<c.length)<|(lD (c.getD b.toNat Z9)).bind λi=>cond (La (i.1<=f)) (Ze (0<=b/\b<c.length)<|(lD (c.getD b.toNat Z9)).bind λj=>Ze (0<=b/\b<c.length)<|(xp g (c.getD b.toNat Z9)).bind λk=>Ze (0<=b/\b<c.length)<|Ze (e.length+([(c.getD b.toNat Z9)]).length<=Qg)<|rr (λv=>Vp N v.1 v.2.1 v.2.2.1 v.2.2.2.1 v.2.2.2.2.1 v.2.2.2.2.2.1 v.2.2.2.2.2.2.1) d h k.1 (e++([(c.getD b.toNat Z9)])) (K3.wrap (f-j.1)) c b) (rr (λv=>Vp N v.1 v.2.1 v.2.2.1 v.2.2.2.1 v.2.2.2.2.1 v.2.2.2.2.2.1 v.2.2.2.2.2.2.1) d h g e f c b)) ((Bv g e f).bind λa=>cond ((a.1.1.length:Int)==(0:Int)) (Y ((([]:Ba),(-1:Int),a.2.1,()),())) (Ze ((a:Zbt).2.2.2.2.2.2.2.1.length+([((d:ZaI),a.1.1,())]).length<=Qg)<|(bU a.1.1).bind λl=>Y ((l.1,(d:ZaI),(a.2.1.1,a.2.1.2.1,a.2.1.2.2.1,a.2.1.2.2.2.1,a.2.1.2.2.2.2.1,a.2.1.2.2.2.2.2.1,a.2.1.2.2.2.2.2.2.1,a.2.1.2.2.2.2.2.2.2.1,(a:Zbt).1,(a:Zbt).2.1,(a:Zbt).2.2.1,(a:Zbt).2.2.2.1,(a:Zbt).2.2.2.2.1,(a:Zbt).2.2.2.2.2.1,K3.wrap ((d:ZaI)+1),(a:Zbt).2.2.2.2.2.2.2.1++([((d:ZaI),a.1.1,())]),(a:Zbt).2.2.2.2.2.2.2.2),()),())))
def y5(a:Zf)(b:Int):Option ((Ba×Int×Zf×Unit)×(Unit)):=(Qf a).bind λc=>(Ka a).bind λd=>(gG (!d.1) (Z8 b (1:Int) (400:Int))).bind λf=>cond (((!d.1)||(!f.1))||(La ((a:ZaI)>=(1000000:Int)))) (Y ((([]:Ba),(-1:Int),c.1,()),())) ((fC a).bind λe=>Vp (iS a Xl c.1 ([]:List Zj) b e.1 (0:Int)) a Xl c.1 ([]:List Zj) b e.1 (0:Int))
def l6(c:Int)(a:Zf)(d:Qa)(b:Int):Nat:=(((a:Zac).length:Int)-b).toNat+1
def fL:Nat->Int->Zf->Qa->Int->Oc Qa Bool|0,_,_,_,_=>Lc|N+1,c,b,d,a=>cond (La (a<((b:Zac).length:Int))) (gH (b:Zac) a<|cond ((gI (b:Zac) a).1==c) (gH (b:Zac) a<|Ze (([]:List Zj).length+(gI (b:Zac) a).2.1.length<=Qg)<|some ((c,([]:List Zj)++(gI (b:Zac) a).2.1,()),Lb,())) (fL N c b d (K3.wrap (a+1)))) (Y (((0:Int),([]:List Zj),()),K4,()))
def od(a:Zf)(b:Int):Oc Qa Bool:=fL (l6 b a ((0:Int),([]:List Zj),()) (0:Int)) b a ((0:Int),([]:List Zj),()) (0:Int)
def mL(K1:(Zf×Int×List Qa×Int×Unit)->Option ((Unit)×(Zf×Unit)))(a:Zf)(b:Int)(c:List Qa)(d:Int):Option ((Unit)×(Zf×Unit)):=K1 (a,b,c,K3.wrap (d+1),())
def nM(a:Zf)(c:Int)(d:List Qa)(b:Int):Nat:=(((a:Zac).length:Int)-b).toNat+1
def bH:Nat->Zf->Int->List Qa->Int->Option ((Unit)×(Zf×Unit))|0,_,_,_,_=>Lc|N+1,a,d,c,b=>cond (La (b<((a:Zac).length:Int))) (gH (a:Zac) b<|cond ((gI (a:Zac) b).1 !=d) (gH (a:Zac) b<|Ze (c.length+([(gI (a:Zac) b)]).length<=Qg)<|mL (λv=>bH N v.1 v.2.1 v.2.2.1 v.2.2.2.1) a d (c++([(gI (a:Zac) b)])) b) (mL (λv=>bH N v.1 v.2.1 v.2.2.1 v.2.2.2.1) a d c b)) (Y ((),(tJ a c),()))
def rK(a:Zf)(b:Int):Option ((Unit)×(Zf×Unit)):=bH (nM a b ([]:List Qa) (0:Int)) a b ([]:List Qa) (0:Int)
def yC(a:Zj):Oa Qj:=Y (((a:LT),(a:IO),(a:Zas),()),())
def lW(a:Int)(c d e:Q9)(b:Int):Nat:=(a-b).toNat+1
def fD:Nat->Int->Q9->Q9->Q9->Int->Oc Q9 Bool|0,_,_,_,_,_=>Lc|N+1,d,b,e,a,c=>cond (La (c<d)) (Ze (b.1≠0)<|Ze (0<=(Ld c b.1)/\(Ld c b.1)<(a:SW).length)<|fD N d b e (a.1,a.2.1,(a:Zab),(a:SW).set (Ld c b.1).toNat (0:Int),a.2.2.2.2) (K3.wrap (c+1))) (Y ((a.1,d,a.2.2),Lb,()))
def nZ(a:Q9)(b:Int):Oc Q9 Bool:=(z9 a).bind λc=>(cE a).bind λd=>cond (((!d.1)||(La (b<a.2.1)))||(La (b>(a:Zab)))) (Y (c.1,K4,())) (fD (lW b a HG c.1 a.2.1) b a HG c.1 a.2.1)
def pz(d a:Zn)(b:Q9):Oa Zn:=(dF (a.1,b,a.2.2)).bind λc=>Y ((c.1,b,a.2.2),())
def fA(d e a:Zn):Oa Zn:=jj ((oa (a:Zag) (0:Int)).bind λb=>ca 1 ((nZ d.2.1 b.1).bind λc=>pz e a c.1)) ((oa (a:Zag) (0:Int)).bind λb=>(nZ d.2.1 b.1).bind λc=>pz e a c.1)
def fx(b:Zn)(d:Qj)(c a:Zn):Oa Zn:=cond (d.2.2.1&&((b:Zaf)==2)) (fA b c (tG a (3:Int))) (fA b c a)
def lU(c:Zn)(d:Qj)(e f:Zn)(a:List Zi)(b:Int):Nat:=((a.length:Int)-b).toNat+1
def fB:Nat->Zn->Qj->Zn->Zn->List Zi->Int->Oa Zn|0,_,_,_,_,_,_=>Lc|N+1,d,e,f,b,c,a=>cond (La (a<(c.length:Int))) (gH c a<|(kT (b:Zae) (gK c a)).bind λg=>gH c a<|(cW (b:Zag) (gK c a)).bind λh=>fB N d e f (b.1,b.2.1,(b:ST),g.1,h.1,(b:Zbw).2) c (K3.wrap (a+1))) (fx d e f b)
def nY(a:Zn)(b:Qj):Oa Zn:=(it a).bind λc=>(Km a).bind λf=>let d:Bool:=(!f.1)||(La (a.1>(2:Int)));(gG d (xy a b)).bind λg=>bif d||(!g.1)then Y (c.1,()) else bif !(b.2.1==([]:Ba))then(ki b).bind λh=>(dm (a:Zae) ([h.1])).bind λe=>fB (lU a b Jn c.1 e.1 (0:Int)) a b Jn c.1 e.1 (0:Int) else fx a b Jn c.1
def kp(a:Zn):Oc Zn Bool:=(it a).bind λb=>(Km a).bind λc=>cond ((!c.1)||(a.1 !=4)) (Y (b.1,K4,())) (Y (((5:Int),b.1.2),Lb,()))
def br(a:Zf)(b:Zh):Option ((Unit)×(Zf×Unit)):=(bG a b).bind λc=>Y ((),c.2.1,())
def wn(b:Zf)(c:Zj)(a:Zh)(e:Bool):Option ((Unit)×(Zf×Unit)):=(gG (!e) (Vr c)).bind λf=>cond ((!e)||(!f.1)) (Y ((),b,())) (cond (c.1==8) ((yC c).bind λg=>(nY a.2.1 g.1).bind λh=>br b (tT a h.1)) (cond (c.1==4) ((kp a.2.1).bind λd=>cond d.2.1 (br b (tW a d.1 K4)) (br b (tT a d.1))) (cond (c.1==5) (br b (tB a K4)) (br b a))))
def z8(a:Zf)(b:Zj):Option ((Unit)×(Zf×Unit)):=ca 1 ((Xy a b.2.1).bind λc=>wn a b c.1 c.2.1)
def dj(c d:Zf)(a:Qa)(b:Int):Nat:=((a.2.1.length:Int)-b).toNat+1
def di:Nat->Zf->Zf->Qa->Int->Option ((Zf×Bool×Unit)×(Unit))|0,_,_,_,_=>Lc|N+1,d,c,b,a=>cond (La (a<(b.2.1.length:Int))) (Ze (0<=a/\a<b.2.1.length)<|(z8 c (b.2.1.getD a.toNat Z9)).bind λe=>di N d e.2.1 b (K3.wrap (a+1))) (Y ((c,Lb,()),()))
def py(a:Zf)(c:Int):Option ((Zf×Bool×Unit)×(Unit)):=(Qf a).bind λd=>(od a c).bind λb=>(Ka a).bind λf=>cond ((!f.1)||(!b.2.1)) (Y ((d.1,K4,()),())) ((rK d.1 c).bind λe=>di (dj Xl e.2.1 b.1 (0:Int)) Xl e.2.1 b.1 (0:Int))
def iV(c a:Zn):Oa Zn:=(dF a).bind λb=>Y ((b.1,a.2),())
def dv(c:Zn)(d:Qj)(b a:Zn):Oa Zn:=cond (d.2.2.1&&((c:Zaf)==2)) (iV b (a.1,a.2.1,(a:ST),(a:Zae),(a:Zag),(a:Zam),(1:Int),(a:Zby).2)) (iV b a)
def kf(c:Zn)(d:Qj)(e f:Zn)(a:List Zi)(b:Int):Nat:=((a.length:Int)-b).toNat+1
def dw:Nat->Zn->Qj->Zn->Zn->List Zi->Int->Oa Zn|0,_,_,_,_,_,_=>Lc|N+1,d,e,f,b,c,a=>cond (La (a<(c.length:Int))) (gH c a<|(kT (b:Zae) (gK c a)).bind λg=>gH c a<|(cW (b:ST) (gK c a)).bind λh=>dw N d e f (b.1,b.2.1,h.1,g.1,(b:Zbw)) c (K3.wrap (a+1))) (dv d e f b)
def lF(a:Zn)(b:Qj):Oa Zn:=(it a).bind λc=>(Km a).bind λf=>let d:Bool:=(!f.1)||(La (a.1>(2:Int)));(gG d (xy a b)).bind λg=>bif d||(!g.1)then Y (c.1,()) else bif !(b.2.1==([]:Ba))then(ki b).bind λh=>(dm (a:Zae) ([h.1])).bind λe=>dw (kf a b Jn c.1 e.1 (0:Int)) a b Jn c.1 e.1 (0:Int) else dv a b Jn c.1
def ao(a:Zf)(b:Zh):Option ((Unit)×(Zf×Unit)):=(Xe (a:Id) b).bind λc=>Y ((),(tD a c.1),())
def so(b:Zf)(c:Zj)(a:Zh)(d:Bool):Option ((Unit)×(Zf×Unit)):=(gG (!d) (Vr c)).bind λe=>cond ((!d)||(!e.1)) (Y ((),b,())) (cond (c.1==8) ((yC c).bind λf=>(lF a.2.1 f.1).bind λg=>ao b (tT a g.1)) (cond (c.1==4) (ao b (tC a (a.2.1.1==4))) (cond (c.1==5) (ao b (tB a (La ((a:Zat)<(2:Int))))) (cond (c.1==17) (ao b (tE a Lb)) (ao b a)))))
def xw(a:Zf)(b:Zj):Option ((Unit)×(Zf×Unit)):=cond (b.1==16) (Y ((),(tE a Lb),())) (cond (b.1==18) (cond (b:ZaA) (Y ((),(tO a Lb),())) (Y ((),(tN a Lb),()))) (ca 1 ((Xy a b.2.1).bind λc=>so a b c.1 c.2.1)))
def cG(c d:Zf)(a:Qa)(b:Int):Nat:=((a.2.1.length:Int)-b).toNat+1
def bW:Nat->Zf->Zf->Qa->Int->Option ((Zf×Bool×Unit)×(Unit))|0,_,_,_,_=>Lc|N+1,d,c,b,a=>cond (La (a<(b.2.1.length:Int))) (Ze (0<=a/\a<b.2.1.length)<|(xw c (b.2.1.getD a.toNat Z9)).bind λe=>bW N d e.2.1 b (K3.wrap (a+1))) (Y ((c,Lb,()),()))
def mF(a:Zf)(c:Int):Option ((Zf×Bool×Unit)×(Unit)):=(Qf a).bind λd=>(od a c).bind λb=>(Ka a).bind λf=>cond ((!f.1)||(!b.2.1)) (Y ((d.1,K4,()),())) ((rK d.1 c).bind λe=>bW (cG Xl e.2.1 b.1 (0:Int)) Xl e.2.1 b.1 (0:Int))
def qb(c:Ba)(d a e b:Int):Nat:=(a-b).toNat+1
def bT:Nat->Ba->Int->Int->Int->Int->Od Int Int Bool|0,_,_,_,_,_=>Lc|N+1,c,a,d,e,b=>cond (La (b<d)) (Ze (0<=(8:Int))<|Ze (0<=(K3.wrap (a+b))/\(K3.wrap (a+b))<c.length)<|bT N c a d (bits .or .i64 (K3.wrap (e*2^ (min (8:Int).toNat K3.bits))) (K3.wrap ((c.getD (K3.wrap (a+b)).toNat 0).toNat:Int))) (K3.wrap (b+1))) (Y (e,K3.wrap (a+d),Lb,()))
def X7(b:Ba)(a:Int):Od Int Int Bool:=bif(La (a<(0:Int)))||(La (a>=(b.length:Int)))then Y ((0:Int),(0:Int),K4,()) else gH b a<|Ze (0<=(6:Int))<|let d:Int:=((b.getD a.toNat 0).toNat:Int).fdiv (2^ (min (6:Int).toNat Le.bits));Ze (0<=d)<|let c:Int:=K3.wrap ((1:Int)*2^ (min d.toNat K3.bits));bif La ((K3.wrap ((b.length:Int)-a))<c)then Y ((0:Int),(0:Int),K4,()) else gH b a<|let e:Int:=K3.wrap (bits .and .u8 ((b.getD a.toNat 0).toNat:Int) (63:Int));bT (qb b a c e (1:Int)) b a c e (1:Int)
def dU(c:Ba)(d a:Int)(e:List Int)(b:Int):Nat:=(a-b).toNat+1
def dD:Nat->Ba->Int->Int->List Int->Int->Od (List Int) Int Bool|0,_,_,_,_,_=>Lc|N+1,c,d,e,b,f=>cond (La (f<e)) ((X7 c d).bind λa=>cond (!a.2.2.1) (Y ([(0:Int),(0:Int),(0:Int)],(0:Int),K4,())) (Ze (b.length+([a.1]).length<=Qg)<|dD N c a.2.1 e (b++([a.1])) (K3.wrap (f+1)))) (Y (b,d,Lb,()))
def cO(a:Ba)(b c:Int):Od (List Int) Int Bool:=dD (dU a b c ([]:List Int) (0:Int)) a b c ([]:List Int) (0:Int)
def fQ(d:Ba)(g a:Zj)(b c:Int):Od Zj Int Bool:=Ze (0<=b/\b<=(K3.wrap (b+c))/\(K3.wrap (b+c))<=d.length)<|let e:Ba:=(d.drop b.toNat).take ((K3.wrap (b+c)).toNat-b.toNat);(aC (tD a e)).bind λf=>bif !f.1 then Y (Z9,(0:Int),K4,()) else Y ((tD a e),K3.wrap (b+c),Lb,())
def fP(a:Ba)(f:Int)(d e:Zj)(c:Int):Od Zj Int Bool:=cond ((bits .and .i64 f (2:Int))==2) ((X7 a c).bind λb=>cond ((!b.2.2.1)||(La (b.1>(K3.wrap ((a.length:Int)-b.2.1))))) (Y (Z9,(0:Int),K4,())) (fQ a d e b.2.1 b.1)) (fQ a d e c (K3.wrap ((a.length:Int)-c)))
def kY(c:Ba)(g d:Int)(e b:Zj)(f:Int):Od Zj Int Bool:=(cO c g f).bind λa=>cond (!a.2.2.1) (Y (Z9,(0:Int),K4,())) (Ze (0<=(0:Int)/\(0:Int)<a.1.length)<|cond (f==2) (Ze (0<=(1:Int)/\(1:Int)<a.1.length)<|fP c d e (b.1,a.1.getD (0:Int).toNat (0:Int),a.1.getD (1:Int).toNat (0:Int),b.2.2.2) a.2.1) (fP c d e (b.1,a.1.getD (0:Int).toNat (0:Int),b.2.2) a.2.1))
def ol(b:Ba)(c a:Int):Od Zj Int Bool:=cond ((bits .and .i64 a (4:Int))==4) (kY b c a Z9 ((8:Int),(0:Int),(0:Int),([]:Ba),(bits .and .i64 a (1:Int))==1,(0:Int),(0:Int),(0:Int),K4,()) (2:Int)) (kY b c a Z9 ((8:Int),(0:Int),(0:Int),([]:Ba),(bits .and .i64 a (1:Int))==1,(0:Int),(0:Int),(0:Int),K4,()) (1:Int))
def Yx(e a:Zj)(c:Int)(b:Bool):Od Zj Int Bool:=(cond (!b) (Y (K4,())) (aC a)).bind λd=>cond ((!b)||(!d.1)) (Y (Z9,(0:Int),K4,())) (Y (a,c,Lb,()))
def dO(c a:Zj)(b:List Int)(d:Int)(e f:Bool):Od Zj Int Bool:=cond f (Ze (0<=(0:Int)/\(0:Int)<b.length)<|Ze ((b.length:Int)≠0)<|Ze (0<=(Ld (1:Int) (b.length:Int))/\(Ld (1:Int) (b.length:Int))<b.length)<|Yx c (a.1,b.getD (0:Int).toNat (0:Int),(a:LT),(a:IO),(a:Zas),(a:Zap),b.getD (Ld (1:Int) (b.length:Int)).toNat (0:Int),(a:Zbb).2) d e) (Ze (0<=(0:Int)/\(0:Int)<b.length)<|Yx c (tG a (b.getD (0:Int).toNat (0:Int))) d e)
def Ju(d:Ba)(e:Int)(c b:Zj)(f:Int):Od Zj Int Bool:=(cO d (K3.wrap (e+1)) f).bind λa=>cond (b.1==4) (Ze (0<=(0:Int)/\(0:Int)<a.1.length)<|Ze ((a.1.length:Int)≠0)<|Ze (0<=(Ld (1:Int) (a.1.length:Int))/\(Ld (1:Int) (a.1.length:Int))<a.1.length)<|Ze ((a.1.length:Int)≠0)<|Ze (0<=(Ld (2:Int) (a.1.length:Int))/\(Ld (2:Int) (a.1.length:Int))<a.1.length)<|Yx c (b.1,a.1.getD (0:Int).toNat (0:Int),(b:LT),(b:IO),(b:Zas),a.1.getD (Ld (1:Int) (a.1.length:Int)).toNat (0:Int),(b:Zan),a.1.getD (Ld (2:Int) (a.1.length:Int)).toNat (0:Int),(b:Zbb).2.2) a.2.1 a.2.2.1) (cond (b.1==5) (Ze (0<=(0:Int)/\(0:Int)<a.1.length)<|Ze ((a.1.length:Int)≠0)<|Ze (0<=(Ld (1:Int) (a.1.length:Int))/\(Ld (1:Int) (a.1.length:Int))<a.1.length)<|Yx c (b.1,a.1.getD (0:Int).toNat (0:Int),(b:LT),(b:IO),(b:Zas),a.1.getD (Ld (1:Int) (a.1.length:Int)).toNat (0:Int),(b:Zbb)) a.2.1 a.2.2.1) (cond (b.1==17) (dO c b a.1 a.2.1 a.2.2.1 (b.1==17)) (dO c b a.1 a.2.1 a.2.2.1 (b.1==21))))
def dP(b:Ba)(c:Int)(d:Zj)(f:Int)(a:Zj)(e:Int)(g:Bool):Od Zj Int Bool:=cond g (Ju b c d (K3.wrap (f-1),a.2.1,(a:LT),(a:IO),(a:Zas),(a:Zap),(a:Zan),(a:Zax),Lb,(a:Zbb).2.2.2) e) (Ju b c d a e)
def aR(a:Ba)(b:Int)(c:Zj)(f:Int)(d:Zj)(g e:Int)(h:Bool):Od Zj Int Bool:=cond h (Ju a b c d (2:Int)) (cond (e==19) (dP a b c f d g (e==19)) (dP a b c f d g (e==23)))
def kL(c:Ba)(b:Int):Od Zj Int Bool:=let e:Bool:=(La (b<(0:Int)))||(La (b>=(c.length:Int)));Ze ((e=K4->(0<=b/\b<c.length)))<|bif e||(La (((c.getD b.toNat 0).toNat:Int)>(23:Int)))then Y (Z9,(0:Int),K4,()) else gH c b<|let a:Int:=K3.wrap ((c.getD b.toNat 0).toNat:Int);bif(La (a>=(8:Int)))&&(La (a<(16:Int)))then(ol c (K3.wrap (b+1)) a).bind λd=>Y (d.1,d.2.1,d.2.2.1,()) else bif a==4 then Ju c b Z9 (a,(0:Int),(0:Int),([]:Ba),K4,(0:Int),(0:Int),(0:Int),K4,()) (3:Int) else bif a==5 then aR c b Z9 a (a,(0:Int),(0:Int),([]:Ba),K4,(0:Int),(0:Int),(0:Int),K4,()) (1:Int) a (a==5) else bif a==17 then aR c b Z9 a (a,(0:Int),(0:Int),([]:Ba),K4,(0:Int),(0:Int),(0:Int),K4,()) (1:Int) a (a==17) else aR c b Z9 a (a,(0:Int),(0:Int),([]:Ba),K4,(0:Int),(0:Int),(0:Int),K4,()) (1:Int) a (a==21)
def lB(a:Ba)(c:List Zj)(b:Int):Nat:=((a.length:Int)-b).toNat+1
def Jq:Nat->Ba->List Zj->Int->Oc (List Zj) Bool|0,_,_,_=>Lc|N+1,a,c,b=>cond (La (b<(a.length:Int))) (gH a b<|cond (((a.getD b.toNat 0).toNat:Int)==(0:Int)) (Jq N a c (K3.wrap (b+1))) ((kL a b).bind λd=>cond (!d.2.2.1) (Y (([]:List Zj),K4,())) (Ze (c.length+([d.1]).length<=Qg)<|Jq N a (c++([d.1])) d.2.1))) ((Z8 (a.length:Int) (1:Int) (400:Int)).bind λe=>Y (c,e.1,()))
def Vo(a:Ba):Oc (List Zj) Bool:=Jq (lB a ([]:List Zj) (0:Int)) a ([]:List Zj) (0:Int)
def ly(b:Zf)(c:Int):Oa Zf:=(Qf b).bind λa=>(cond ((b:ZaG)==0) (Z8 c (1:Int) (255:Int)) (Y (K4,()))).bind λd=>cond (((b:ZaG)==0)&&d.1) (Y ((tK a.1 c),())) (Y (a.1,()))
def ry(a:Int):Oa Int:=(Q0 a).bind λb=>cond (!b.1) (Y ((-1:Int),())) (Ze (0<=(2:Int))<|some (a.fdiv (2^ (min (2:Int).toNat K3.bits)),()))
def oh(a:Qq)(b:Int):Od Qq Int Bool:=(aB a).bind λd=>bif((!d.1)||(La (b<(0:Int))))||(La (b>=a.2.1))then Y (a,(0:Int),K4,()) else let c:Int:=max (0:Int) (K3.wrap ((K3.wrap (b+1))-a.2.2.1));Y ((tP a (K3.wrap (a.2.2.1+c))),c,Lb,())
def za(K1:(Zf×Int×Int×Unit)->Option ((Unit)×(Zf×Unit)))(a:Zf)(b c:Int)(d:Zh):Option ((Unit)×(Zf×Unit)):=(Xe (a:Id) d).bind λe=>K1 ((tD a e.1),b,K3.wrap (c-1),())
def nI(b:Zf)(c a:Int):Nat:=(a-0).toNat+2
def eg:Nat->Zf->Int->Int->Option ((Unit)×(Zf×Unit))|0,_,_,_=>Lc|N+1,a,c,b=>bif La (b>=(0:Int))then let d:Int:=K3.wrap (c- (K3.wrap ((4:Int)*b)));ca 1 ((bq a.1 d a.2.1 a.2.2.1).bind λe=>za (λv=>eg N v.1 v.2.1 v.2.2.1) a c b e.1 ) else Y ((),a,())
def XS(a:Zf)(b c:Int):Option ((Unit)×(Zf×Unit)):=eg (nI a b (K3.wrap (c-1))) a b (K3.wrap (c-1))
def ag(a:Int)(e b:Zf)(c:Int):Oc Zf Int:=(XS b a c).bind λd=>Y (d.2.1,(0:Int),())
def cB(c:Int)(f d a:Zf)(e:Qq)(b:Int)(g:Bool):Oc Zf Int:=cond (((!g)||(b==0))||(La ((K3.wrap (((f:Id).length:Int)+b))>24))) (Y (a,(4:Int),())) ((aD c).bind λh=>cond h.1 (ag c d (tB a e) b) (ag c d (tC a e) b))
def Kl(b:Int)(d e f:Zf)(g:Qq):Oc Zf Int:=jj ((ry b).bind λc=>ca 1 ((oh g c.1).bind λa=>cB b d e f a.1 a.2.1 a.2.2.1)) ((ry b).bind λc=>(oh g c.1).bind λa=>cB b d e f a.1 a.2.1 a.2.2.1)
def Wr(a:Zf)(b:Int):Oc Zf Int:=(Qf a).bind λc=>(Ky a).bind λd=>(gG (!d.1) (Q0 b)).bind λe=>cond ((!d.1)||(!e.1)) (Y (c.1,(7:Int),())) ((Kc (a:Id) b).bind λf=>cond (La (f.1>=(0:Int))) (Y (c.1,(0:Int),())) ((jd a.1 b).bind λg=>cond g.1 (Y (c.1,(5:Int),())) ((aD b).bind λh=>cond h.1 (Kl b a Xl c.1 (a:Zav)) (Kl b a Xl c.1 (a:Zay)))))
def rL(a:Zz)(b:Int)(c:Bool):Oa Int:=cond ((((a:Or) !=(-1:Int))&&((La (b>(a:Or)))||(c&&(b !=(a:Or)))))||(c&&(La (b<(a:Zau))))) (Y ((6:Int),())) (Y ((0:Int),()))
def eA(a:Zx)(c:List Zi)(b:Int):Nat:=((a.2.1.length:Int)-b).toNat+1
def Vg:Nat->Zx->List Zi->Int->Oa (List Zi)|0,_,_,_=>Lc|N+1,b,c,a=>(cond (La (a<(b.2.1.length:Int))) (kq b) (Y (K4,()))).bind λe=>bif(La (a<(b.2.1.length:Int)))&&e.1 then Ze (0<=a/\a<b.2.1.length)<|Ze (0<=a/\a<b.2.1.length)<|Ze (0<=a/\a<b.2.1.length)<|let d:List Zi:=[((b.2.1.getD a.toNat Qr).1,K3.wrap ((b.2.1.getD a.toNat Qr).1+((b.2.1.getD a.toNat Qr).2.1.length:Int)),())];Ze (c.length+d.length<=Qg)<|Vg N b (c++d) (K3.wrap (a+1)) else Y (c,())
def uJ(a:Zx):Oa (List Zi):=Vg (eA a ([]:List Zi) (0:Int)) a ([]:List Zi) (0:Int)
def oH(c:Int)(a:Zx)(b:Int):Nat:=((a.2.1.length:Int)-b).toNat+1
def ic:Nat->Int->Zx->Int->Oa Int|0,_,_,_=>Lc|N+1,d,b,a=>bif La (a<(b.2.1.length:Int))then gH b.2.1 a<|let c:Int:=K3.wrap (d- (gL b.2.1 a).1);Ze (((La (d>=(0:Int)))=Lb->(0<=a/\a<b.2.1.length)))<|let e:Bool:=((La (d>=(0:Int)))&&(La ((gL b.2.1 a).1>=(0:Int))))&&(La (c>=(0:Int)));Ze ((e=Lb->(0<=a/\a<b.2.1.length)))<|bif e&&(La (c<((gL b.2.1 a).2.1.length:Int)))then gH b.2.1 a<|Ze (0<=c/\c<(gL b.2.1 a).2.1.length)<|Y (K3.wrap (((gL b.2.1 a).2.1.getD c.toNat 0).toNat:Int),()) else ic N d b (K3.wrap (a+1)) else Y ((-1:Int),())
def z6(a:Zx)(b:Int):Oa Int:=ic (oH b a (0:Int)) b a (0:Int)
def bV(K1:(Int×Ba×Zx×Zx×Zx×List Zi×Int×Unit)->Oa Zx)(K2:(Int×Ba×Zx×Zx×Zx×List Zi×Int×Ba×Int×Unit)->Oa Zx)(c:Int)(d:Ba)(e f g:Zx)(h:List Zi)(i:Int)(a:Ba)(j k:Int):Oa Zx:=(eh k).bind λb=>Ze (a.length+b.1.length<=Ym)<|K2 (c,d,e,f,g,h,i,a++b.1,K3.wrap (j+1),())
def Wx(d:Int)(e:Ba)(f g h:Zx)(a:List Zi)(b:Int)(i:Ba)(c:Int):Nat:=((a.getD b.toNat Z3).2.1-c).toNat+1
def Ke(K1:(Int×Ba×Zx×Zx×Zx×List Zi×Int×Unit)->Oa Zx):Nat->Int->Ba->Zx->Zx->Zx->List Zi->Int->Ba->Int->Oa Zx|0,_,_,_,_,_,_,_,_,_=>Lc|N+1,d,f,g,h,e,b,a,i,c=>gH b a<|bif La (c<(gK b a).2.1)then(z6 g c).bind λj=>bif La (j.1<(0:Int))then Ze (0<=(K3.wrap (c-d))/\(K3.wrap (c-d))<f.length)<|bV K1 (λv=>Ke K1 N v.1 v.2.1 v.2.2.1 v.2.2.2.1 v.2.2.2.2.1 v.2.2.2.2.2.1 (v:Zbs).1 (v:Zbs).2.1 (v:Zbs).2.2.1) d f g h e b a i c (K3.wrap ((f.getD (K3.wrap (c-d)).toNat 0).toNat:Int)) else bV K1 (λv=>Ke K1 N v.1 v.2.1 v.2.2.1 v.2.2.2.1 v.2.2.2.2.1 v.2.2.2.2.2.1 (v:Zbs).1 (v:Zbs).2.1 (v:Zbs).2.2.1) d f g h e b a i c j.1 else gH b a<|let k:List Z6:=[((gK b a).1,i,())];Ze (e.2.1.length+k.length<=Qg)<|K1 (d,f,g,h,(e.1,e.2.1++k,e.2.2),b,K3.wrap (a+1),())
def Ww(c:Int)(d:Ba)(e f g:Zx)(a:List Zi)(b:Int):Nat:=((a.length:Int)-b).toNat+1
def Vq:Nat->Int->Ba->Zx->Zx->Zx->List Zi->Int->Oa Zx|0,_,_,_,_,_,_,_=>Lc|N+1,d,e,f,g,c,b,a=>cond (La (a<(b.length:Int))) (gH b a<|Ke (λv=>Vq N v.1 v.2.1 v.2.2.1 v.2.2.2.1 v.2.2.2.2.1 v.2.2.2.2.2.1 v.2.2.2.2.2.2.1) (Wx d e f g c b a ([]:Ba) (gK b a).1) d e f g c b a ([]:Ba) (gK b a).1) (Y (c,()))
def mC(a:Zx)(b:Int)(c:Ba):Oa Zx:=(kq a).bind λf=>bif(((!f.1)||(c==([]:Ba)))||(La (b<(0:Int))))||(La (b>(K3.wrap ((4611686018427387903:Int)- (c.length:Int)))))then(qz a).bind λg=>Y (g.1,()) else let d:Int:=K3.wrap (b+(c.length:Int));bif La ((max b a.1)>=d)then(qz a).bind λh=>Y (h.1,()) else(uJ a).bind λi=>(cW i.1 (max b a.1,d,())).bind λe=>Vq (Ww b c a ((0:Int),([]:List Z6),()) (a.1,([]:List Z6),()) e.1 (0:Int)) b c a ((0:Int),([]:List Z6),()) (a.1,([]:List Z6),()) e.1 (0:Int)
def ju(b a:Zz):Oc Zz Int:=Y (a,(0:Int),())
def Jw(d:Int)(e:Ba)(f c a:Zz):Oc Zz Int:=(mC f.2.1 d e).bind λb=>(cond ((a:Or) !=(-1:Int)) (ee b.1) (Y ((0:Int),()))).bind λg=>cond (((a:Or) !=(-1:Int))&&((K3.wrap (b.1.1+g.1))==(a:Or))) (ju c ((2:Int),b.1,a.2.2)) (ju c (a.1,b.1,a.2.2))
def K8(a:Zz)(c:Int)(d:Ba)(f:Bool):Oc Zz Int:=(nO a).bind λb=>(Yj a).bind λh=>bif((!h.1)||(La (c<(0:Int))))||(La (c>(K3.wrap ((4611686018427387903:Int)- (d.length:Int)))))then Y (b.1,(7:Int),()) else let e:Int:=K3.wrap (c+(d.length:Int));(rL a e f).bind λg=>bif(g.1 !=0)||(La (a.1>(1:Int)))then Y (b.1,g.1,()) else bif f then Jw c d a qq ((1:Int),b.1.2.1,e,max (a:Zau) e,b.1.2.2.2.2) else Jw c d a qq (tD b.1 (max (a:Zau) e))
def td(a:Zz)(b:Int):Oa Int:=(Yj a).bind λc=>(cond (!c.1) (Y (K4,())) (Q0 b)).bind λd=>cond ((!c.1)||(!d.1)) (Y ((0:Int),())) (Y (max (0:Int) (K3.wrap (b-(a:Zau))),()))
def og(a:Qp)(b:Int):Oc Qp Bool:=(bp a).bind λc=>cond (((!c.1)||(La (b<(0:Int))))||(La (b>(K3.wrap (a.2.2.1-(a:ZaD)))))) (Y (a,K4,())) (Y ((tD a (K3.wrap ((a:ZaD)+b))),Lb,()))
def rG(a:Zf)(b:Zh)(f:Int):Option ((Int×Unit)×(Zf×Zh×Unit)):=(td (b:Fd) f).bind λc=>cond (c.1==0) (Y (((0:Int),()),a,b,())) ((og (b:Fn) c.1).bind λd=>(og (a:Zai) c.1).bind λe=>cond ((!d.2.1)||(!e.2.1)) (Y (((3:Int),()),a,b,())) (Y (((0:Int),()),(tU a e.1),(tH b d.1),())))
def mz(b:Zf)(a:Zj):Option ((Zf×Int×Unit)×(Unit)):=(Ky b).bind λf=>(gG (!f.1) (aC a)).bind λh=>cond (((!f.1)||(!h.1))||(a.1 !=8)) ((Qf b).bind λi=>Y ((i.1,(7:Int),()),())) ((Y9 b.1 a.2.1).bind λj=>cond (!j.1) ((Qf b).bind λk=>Y ((k.1,(5:Int),()),())) ((Wr b a.2.1).bind λd=>cond (d.2.1 !=0) ((Qf b).bind λl=>Y ((l.1,d.2.1,()),())) ((Xy d.1 a.2.1).bind λg=>(K8 g.1.2.2.2.1 (a:LT) (a:IO) (a:Zas)).bind λe=>(rG d.1 g.1 (K3.wrap ((a:LT)+((a:IO).length:Int)))).bind λc=>cond (c.1.1 !=0) ((Qf b).bind λm=>Y ((m.1,c.1.1,()),())) (cond (e.2.1 !=0) ((Qf b).bind λn=>Y ((n.1,e.2.1,()),())) ((bG c.2.1 (tD c.2.2.1 e.1)).bind λo=>Y ((o.2.1,(0:Int),()),()))))))
def Ws(a:Zz)(d b:Int):Oc Zz Int:=(nO a).bind λe=>(Yj a).bind λc=>(gG (!c.1) (Q0 d)).bind λf=>(gG ((!c.1)||(!f.1)) (Q0 b)).bind λh=>cond (((!c.1)||(!f.1))||(!h.1)) (Y (e.1,(7:Int),())) ((rL a b Lb).bind λg=>cond ((g.1 !=0)||(La (a.1>(1:Int)))) (Y (e.1,g.1,())) (Y (((4:Int),(a.2.1.1,([]:List Z6),()),b,b,d,()),(0:Int),())))
def dT(e b:Zf)(a:Zh)(c:Zz):Option ((Zf×Int×Unit)×(Unit)):=(bG b (tD a c)).bind λd=>Y ((d.2.1,(0:Int),()),())
def kO(b:Zf)(a:Zj):Option ((Zf×Int×Unit)×(Unit)):=(Ky b).bind λf=>(gG (!f.1) (aC a)).bind λi=>cond (((!f.1)||(!i.1))||(a.1 !=4)) ((Qf b).bind λj=>Y ((j.1,(7:Int),()),())) ((Y9 b.1 a.2.1).bind λk=>cond (!k.1) ((Qf b).bind λl=>Y ((l.1,(5:Int),()),())) ((Wr b a.2.1).bind λe=>cond (e.2.1 !=0) ((Qf b).bind λm=>Y ((m.1,e.2.1,()),())) ((Xy e.1 a.2.1).bind λg=>(Ws g.1.2.2.2.1 (a:Zap) (a:Zax)).bind λd=>(rG e.1 g.1 (a:Zax)).bind λc=>cond (c.1.1 !=0) ((Qf b).bind λn=>Y ((n.1,c.1.1,()),())) (cond (d.2.1 !=0) ((Qf b).bind λo=>Y ((o.1,d.2.1,()),())) (cond ((d.1.1==4)&&(c.2.2.1.2.2.2.1.1 !=4)) ((rH c.2.1 c.2.2.1 (a:Zax)).bind λh=>dT Xl h.2.1 h.2.2.1 d.1) (dT Xl c.2.1 c.2.2.1 d.1))))))
def fF(d a:Zf)(b:Zh):Option ((Zf×Int×Unit)×(Unit)):=(bG a b).bind λc=>Y ((c.2.1,(0:Int),()),())
def mA(b:Zf)(c:Zj):Option ((Zf×Int×Unit)×(Unit)):=(Ky b).bind λe=>(gG (!e.1) (aC c)).bind λg=>cond (((!e.1)||(!g.1))||(c.1 !=5)) ((Qf b).bind λh=>Y ((h.1,(7:Int),()),())) ((V4 b.1 c.2.1).bind λi=>cond (!i.1) ((Qf b).bind λj=>Y ((j.1,(5:Int),()),())) ((Wr b c.2.1).bind λd=>cond (d.2.1 !=0) ((Qf b).bind λk=>Y ((k.1,d.2.1,()),())) ((Xy d.1 c.2.1).bind λa=>(cK a.1.2.1 (c:Zap)).bind λf=>cond f.2.1 (fF Xl d.1 (tW a.1 f.1 Lb)) (fF Xl d.1 a.1))))
def jg(a:Qq)(b:Int):Oa Qq:=(J9 a).bind λc=>(gG (!c.1) (Q0 b)).bind λd=>cond (((!c.1)||(!d.1))||(La (b<=a.1))) (Y (a,())) (Y ((b,a.2.1,(-1:Int),a.2.2.2),()))
def jf(a:aP)(b:Int):Oa aP:=(fZ a).bind λc=>cond (((!c.1)||(La (b<=a.1)))||(La (b>(1152921504606846976:Int)))) (Y (a,())) (Y ((b,a.2.1,(-1:Int),a.2.2.2),()))
def qk(b a:Zf):Oc Zf Int:=Y (a,(0:Int),())
def kX(d:Zf)(b:Zj)(e:Zf)(f:Bool):Oc Zf Int:=cond (!f) ((Qf d).bind λg=>Y (g.1,(5:Int),())) ((Wr d b.2.1).bind λa=>cond (a.2.1 !=0) ((Qf d).bind λh=>Y (h.1,a.2.1,())) (cond (b.1==17) ((Xy a.1 b.2.1).bind λc=>(jg c.1.2.2.1 (b:Zan)).bind λi=>(Xe a.1.2.2.2.1 (tP c.1 i.1)).bind λj=>qk e (tD a.1 j.1)) (qk e a.1)))
def yB(b:Zf)(a:Zj):Oc Zf Int:=(V4 b.1 a.2.1).bind λc=>cond (a.1==21) ((Y9 b.1 a.2.1).bind λd=>kX b a Xl d.1) (kX b a Xl c.1)
def jt(b a:Zf):Oc Zf Int:=Y (a,(0:Int),())
def dS(b:Zf)(c:Zj)(f d:Zf)(e:Bool):Oc Zf Int:=cond e ((yB b c).bind λa=>Y (a.1,a.2.1,())) (Y (d,(7:Int),()))
def dR(c:Zf)(d:Zj)(e a:Zf)(b:Int)(f:Bool):Oc Zf Int:=cond f (Y (a,(0:Int),())) (cond (b==17) (dS c d e a (b==17)) (dS c d e a (b==21)))
def kN(c:Zf)(b:Zj):Oc Zf Int:=(Qf c).bind λa=>(Ky c).bind λd=>(gG (!d.1) (aC b)).bind λe=>cond ((!d.1)||(!e.1)) (Y (a.1,(7:Int),())) (cond (b.1==16) ((jg (c:Zah) (b:Zan)).bind λf=>Y ((tH a.1 f.1),(0:Int),())) (cond (b.1==18) (cond (b:ZaA) ((jf (c:Zaq) (b:Zan)).bind λg=>jt Xl (tM a.1 g.1)) ((jf (c:Zar) (b:Zan)).bind λh=>jt Xl (tG a.1 h.1))) (cond (b.1==20) (dR c b Xl a.1 b.1 (b.1==20)) (dR c b Xl a.1 b.1 (b.1==22)))))
def aS(c a:Zf)(b:Int):Option ((Zf×Int×Unit)×(Unit)):=Y ((a,b,()),())
def kM(b:Zf)(a:Zj):Option ((Zf×Int×Unit)×(Unit)):=(Qf b).bind λg=>cond (a.1==8) ((mz b a).bind λc=>aS Xl c.1.1 c.1.2.1) (cond (a.1==4) ((kO b a).bind λd=>aS Xl d.1.1 d.1.2.1) (cond (a.1==5) ((mA b a).bind λe=>aS Xl e.1.1 e.1.2.1) ((kN b a).bind λf=>aS Xl f.1 f.2.1)))
def lX(K1:(Zf×Zf×List Zj×Int×Unit)->Option ((Zf×Int×Unit)×(Unit)))(b c:Zf)(d:List Zj)(e:Int)(f:Zf)(a:Int):Option ((Zf×Int×Unit)×(Unit)):=cond (a !=0) ((ly c a).bind λg=>Y ((g.1,a,()),())) (K1 (b,f,d,K3.wrap (e+1),()))
def ah(c d:Zf)(a:List Zj)(b:Int):Nat:=((a.length:Int)-b).toNat+1
def Wn:Nat->Zf->Zf->List Zj->Int->Option ((Zf×Int×Unit)×(Unit))|0,_,_,_,_=>Lc|N+1,e,c,b,a=>cond (La (a<(b.length:Int))) (gH b a<|ca 1 ((kM c (gN b a)).bind λd=>lX (λv=>Wn N v.1 v.2.1 v.2.2.1 v.2.2.2.1) e c b a d.1.1 d.1.2.1)) (Y ((c,(0:Int),()),()))
def fE(a:Zf)(e:Ba):Option ((Zf×Int×Unit)×(Unit)):=(Qf a).bind λb=>(Ky a).bind λd=>(gG (!d.1) (oc a)).bind λf=>cond ((!d.1)||f.1) (Y ((b.1,(a:ZaG),()),())) ((Vo e).bind λc=>cond (!c.2.1) ((ly b.1 (7:Int)).bind λg=>Y ((g.1,(7:Int),()),())) (Wn (ah Xl b.1 c.1 (0:Int)) Xl b.1 c.1 (0:Int)))
def th(b:Zf)(c:Int):Oc Zf Bool:=(Qf b).bind λa=>(Ka b).bind λd=>(gG (!d.1) (Z8 c (1:Int) (1000:Int))).bind λe=>cond (((!d.1)||(!e.1))||(La ((K3.wrap ((b:ZaT).2.1+c))>1000000))) (Y (a.1,K4,())) (Y ((tL a.1 (K3.wrap ((b:ZaT).2.1+c))),Lb,()))
def Z4k(a:Bool):Oa Ba:=cond a (Y (([111,107]:Ba),())) (Y (([110,111]:Ba),()))
def Jj(d a:Zf)(b:Bool):Option ((Ba×Zf×Unit)×(Unit)):=(Z4k b).bind λc=>Y ((c.1,a,()),())
def my(b:Zf)(a:Z4):Option ((Ba×Zf×Unit)×(Unit)):=(Qf b).bind λf=>(Ky b).bind λh=>(gG (!h.1) (du a)).bind λv=>cond ((!h.1)||(!v.1)) (Y ((([]:Ba),f.1,()),())) ((oc b).bind λw=>cond w.1 (Y ((([99,108,111,115,101,100]:Ba),f.1,()),())) (cond (a.1==1) ((ed b ((a:Zaj)==([117,110,105]:Ba))).bind λe=>cond (!e.2.2.1) (Y ((([98,108,111,99,107,101,100]:Ba),e.2.1,()),())) ((J5 e.1).bind λx=>Y ((x.1,e.2.1,()),()))) (cond (a.1==2) ((cM b a.2.1 (a:Zaj)).bind λi=>(J5 i.1).bind λy=>Y ((y.1,i.2.1,()),())) (cond (a.1==3) ((iT b a.2.1).bind λj=>Jj Xl j.1 j.2.1) (cond (a.1==4) ((mH b a.2.1 a.2.2.1).bind λc=>cond c.1.2.1 ((qd c.1.1).bind λk=>Ze (k.1.length+([32,101,110,100]:Ba).length<=Ym)<|some ((k.1++([32,101,110,100]:Ba),c.1.2.2.1,()),())) ((qd c.1.1).bind λl=>Ze (l.1.length+([32,109,111,114,101]:Ba).length<=Ym)<|some ((l.1++([32,109,111,114,101]:Ba),c.1.2.2.1,()),()))) (cond (a.1==5) ((kU b a.2.1 a.2.2.1).bind λm=>Jj Xl m.1.1 m.1.2.1) (cond (a.1==6) ((mJ b a.2.1 a.2.2.1).bind λn=>Jj Xl n.1 n.2.1) (cond (a.1==7) ((kV b a.2.1 (a:Zaj)).bind λo=>Jj Xl o.1 o.2.1) (cond (a.1==8) ((y5 b a.2.2.1).bind λd=>cond (d.1.2.1==(-1:Int)) (Y ((([110,111,116,104,105,110,103]:Ba),d.1.2.2.1,()),())) ((J5 d.1.2.1).bind λg=>Ze (g.1.length+([32]:Ba).length<=Ym)<|(qd d.1.1).bind λp=>Ze ((g.1++([32]:Ba)).length+p.1.length<=Ym)<|some (((g.1++([32]:Ba))++p.1,d.1.2.2.1,()),()))) (cond (a.1==9) ((py b a.2.2.1).bind λq=>Jj Xl q.1.1 q.1.2.1) (cond (a.1==10) ((mF b a.2.2.1).bind λr=>Jj Xl r.1.1 r.1.2.1) (cond (a.1==11) ((lz (a:Zaj)).bind λz=>(fE b z.1).bind λs=>(J5 s.1.2.1).bind λt=>Ze (([101,114,114,111,114,32]:Ba).length+t.1.length<=Ym)<|some ((([101,114,114,111,114,32]:Ba)++t.1,s.1.1,()),())) (cond (a.1==12) ((th b a.2.2.1).bind λu=>Jj Xl u.1 u.2.1) (Jj Xl f.1 K4))))))))))))))
def XR(K1:(List Z4×Zf×Zf×List Ba×Int×Unit)->Option ((List Ba×Zf×Unit)×(Unit)))(c:List Z4)(d g:Zf)(a:List Ba)(e:Int)(b:Ba)(f:Zf):Option ((List Ba×Zf×Unit)×(Unit)):=Ze (a.length+([b]).length<=Qg)<|K1 (c,d,f,a++([b]),K3.wrap (e+1),())
def rF(a:List Z4)(b c:Zf)(d:List Ba)(i8:Int):Nat:=((a.length:Int)-i8).toNat+1
def dy:Nat->List Z4->Zf->Zf->List Ba->Int->Option ((List Ba×Zf×Unit)×(Unit))|0,_,_,_,_,_=>Lc|N+1,a,e,b,c,i8=>cond ((La (i8<(a.length:Int)))&&(La (i8<(60:Int)))) (Ze (0<=i8/\i8<a.length)<|ca 1 ((my b (a.getD i8.toNat mi)).bind λd=>XR (λv=>dy N v.1 v.2.1 v.2.2.1 v.2.2.2.1 v.2.2.2.2.1) a e b c i8 d.1.1 d.1.2.1)) (Y ((c,b,()),()))
def XQ(c:Zf)(a:List Z4):Option ((List Ba×Zf×Unit)×(Unit)):=(Qf c).bind λb=>dy (rF a Xl b.1 ([]:List Ba) (0:Int)) a Xl b.1 ([]:List Ba) (0:Int)
def mI(d:Bool)(e f:av)(g:Ba):Option ((List Ba×Zf×Bool×Unit)×(Unit)):=(xq d e f).bind λa=>(uK g).bind λb=>cond ((!a.2.1)||(!b.2.1)) (Y ((([]:List Ba),Xl,K4,()),())) ((XQ a.1 b.1).bind λc=>Y ((c.1.1,c.1.2.1,Lb,()),()))
def Zy(a b c:Int):Oa Bool:=Y ((La (b<=a))&&(La (a<=c)),())
def mq(a:Int):Oa Bool:=(Zy a (1:Int) (64:Int)).bind λb=>Y (b.1&&((bits .and .i64 a (K3.wrap (a-1)))==0),())
def mW(a:av):Oa Bool:=(mq a.1).bind λb=>(cond b.1 (Zy a.2.2.1 (1:Int) (4096:Int)) (Y (K4,()))).bind λd=>(cond (b.1&&d.1) (Zy a.2.2.2.2.1 (1:Int) (4096:Int)) (Y (K4,()))).bind λf=>(cond ((b.1&&d.1)&&f.1) (Zy a.2.1 (1:Int) a.2.2.1) (Y (K4,()))).bind λi=>let c:Bool:=((b.1&&d.1)&&f.1)&&i.1;(cond c (Zy a.2.2.2.1 (1:Int) a.2.2.2.2.1) (Y (K4,()))).bind λe=>(cond (c&&e.1) (Zy (a:ZaW).1 (0:Int) (1000:Int)) (Y (K4,()))).bind λg=>(cond ((c&&e.1)&&g.1) (Zy (a:ZaW).2.1 (0:Int) (1000:Int)) (Y (K4,()))).bind λj=>let h:Bool:=((c&&e.1)&&g.1)&&j.1;(cond h (Zy (a:ZaW).2.2.1 (1:Int) (1000:Int)) (Y (K4,()))).bind λk=>Y (h&&k.1,())
def Xk(a:Int):Oa Bool:=(Zy a (0:Int) (4611686018427387903:Int)).bind λb=>Y (b.1,())
def Th(a:Int):Oc Qq Bool:=(Xk a).bind λb=>cond (!b.1) (Y (Hh,K4,())) (Y ((a,(0:Int),(-1:Int),(-1:Int),()),Lb,()))
def Ij(a b:Int):Oc Qp Bool:=(Zy b (1:Int) (4096:Int)).bind λc=>(gG (!c.1) (Zy a (1:Int) b)).bind λd=>cond ((!c.1)||(!d.1)) (Y (U7,K4,())) (Y ((a,b,a,KL),Lb,()))
def GH(a:Int):Oc aP Bool:=(Zy a (0:Int) (1152921504606846976:Int)).bind λb=>cond (!b.1) (Y (KL,K4,())) (Y ((a,(0:Int),(-1:Int),()),Lb,()))
def SY(a:Int):Oc Qq Bool:=(Zy a (0:Int) (1000:Int)).bind λb=>cond (!b.1) (Y (Hh,K4,())) (Y ((a,a,(0:Int),(0:Int),()),Lb,()))
def Is(d:Bool)(a b:av):Oc Zf Bool:=(mW a).bind λc=>(gG (!c.1) (mW b)).bind λe=>cond ((!c.1)||(!e.1)) (Y (Xl,K4,())) ((Th b.2.2.2.1).bind λf=>(Ij a.2.2.2.1 a.2.2.2.2.1).bind λg=>(GH (b:ZaW).1).bind λh=>(GH (b:ZaW).2.1).bind λi=>(SY (a:ZaW).1).bind λj=>(SY (a:ZaW).2.1).bind λk=>Y ((d,a,b,([]:List Zh),f.1,g.1,h.1,i.1,j.1,k.1,K4,K4,K4,(-1:Int),(0:Int),([]:List Qa),(0:Int),(0:Int),()),Lb,()))
def tl(s p:Ba):Oa (List Ba):=Ze (s.length<4294967281/\1<=p.length) (Y (Go.Lib.splitK p 0 (Go.Lib.count s p) s,()))
def wo(s p:Ba):Od Ba Ba Bool:=Ze (s.length<4294967281) (Y ((Li s p).1,(Li s p).2.1,(Li s p).2.2,()))
def KK:List Ba:=[[],[111,112,101,110],[119,114,105,116,101],[102,105,110,105,115,104],[114,101,97,100],[114,101,115,101,116],[115,116,111,112],[112,114,105,111,114,105,116,121],[101,109,105,116],[97,99,107],[108,111,115,101],[112,97,121,108,111,97,100],[116,105,109,101]]
def K9(k:Int):Oa Ba:=Y (cond (La (1<=k)&&La (k<=12)) (KK.getD k.toNat []) [],())
def nj(a:Bool):Od Bool Bool Bool:=cond a (Y (Lb,Lb,K4,())) (Y (K4,Lb,K4,()))
def ri(a:Int)(b:Bool):Od Bool Bool Bool:=cond b (Y (Lb,K4,Lb,())) (cond (a==3) (Y (Lb,K4,K4,())) (cond (a==4) (nj (a==4)) (cond (a==5) (nj (a==5)) (nj (a==6)))))
def rh(a:Int)(b:Bool):Od Bool Bool Bool:=cond b (Y (K4,K4,Lb,())) (cond (a==2) (ri a (a==2)) (ri a (a==7)))
def ta(a:Int):Od Bool Bool Bool:=cond (a==1) (rh a (a==1)) (rh a (a==11))
def ub(a:Ba)(c d b:Int):Nat:=((a.length:Int)-b).toNat+1
def fe:Nat->Ba->Int->Int->Int->Oa Bool|0,_,_,_,_=>Lc|N+1,b,c,d,a=>bif La (a<(b.length:Int))then gH b a<|let e:Bool:=La (((b.getD a.toNat 0).toNat:Int)<c);Ze ((e=K4->(0<=a/\a<b.length)))<|bif e||(La (((b.getD a.toNat 0).toNat:Int)>d))then Y (K4,()) else fe N b c d (K3.wrap (a+1)) else(Zy (b.length:Int) (1:Int) (40:Int)).bind λf=>Y (f.1,())
def yf(a:Ba)(b c:Int):Oa Bool:=fe (ub a b c (0:Int)) a b c (0:Int)
def fW(a:Int):Oa Int:=cond ((La ((48:Int)<=a))&&(La (a<=(57:Int)))) (Y (K3.wrap (Le.wrap (a-48)),())) (cond ((La ((97:Int)<=a))&&(La (a<=(102:Int)))) (Y (K3.wrap ((K3.wrap (Le.wrap (a-97)))+10),())) (Y ((-1:Int),())))
def q9(a:Ba)(c:List Int)(b:Int):Nat:=((a.length:Int)-b).toNat+1
def aV:Nat->Ba->List Int->Int->Oc Ba Bool|0,_,_,_=>Lc|N+1,b,c,a=>bif La (a<(b.length:Int))then Ze (0<=a/\a<b.length)<|Ze (0<=(K3.wrap (a+1))/\(K3.wrap (a+1))<b.length)<|(fW ((b.getD a.toNat 0).toNat:Int)).bind λd=>(fW ((b.getD (K3.wrap (a+1)).toNat 0).toNat:Int)).bind λe=>bif(La (d.1<(0:Int)))||(La (e.1<(0:Int)))then Y (([]:Ba),K4,()) else let f:List Int:=[(Le.wrap (K3.wrap ((K3.wrap ((16:Int)*d.1))+e.1)))];Ze (c.length+f.length<=Qg)<|aV N b (c++f) (K3.wrap (a+2)) else Y (Xf c,Lb,())
def ld(a:Ba):Oc Ba Bool:=Ze ((2:Int)≠0)<|cond ((Ld (a.length:Int) (2:Int)) !=0) (Y (([]:Ba),K4,())) (aV (q9 a ([]:List Int) (0:Int)) a ([]:List Int) (0:Int))
def Rz(a:Z4):Oa Bool:=cond (a.1==1) (Y (((a:Zaj)==([98,105,100,105]:Ba))||((a:Zaj)==([117,110,105]:Ba)),())) (cond (a.1==2) ((yf (a:Zaj) (97:Int) (122:Int)).bind λc=>Y (c.1,())) (cond (a.1==7) ((yf (a:Zaj) (32:Int) (126:Int)).bind λd=>Y (d.1,())) (cond (a.1==11) ((ld (a:Zaj)).bind λb=>(cond b.2.1 (Zy (b.1.length:Int) (1:Int) (400:Int)) (Y (K4,()))).bind λe=>Y (b.2.1&&e.1,())) (Y ((a:Zaj)==([]:Ba),())))))
def mX(a:Z4):Oa Bool:=(ta a.1).bind λb=>(K9 a.1).bind λc=>(cond (!(c.1==([]:Ba))) (Zy a.2.1 (0:Int) (999999:Int)) (Y (K4,()))).bind λf=>let d:Bool:=(!(c.1==([]:Ba)))&&f.1;(cond d (Zy a.2.2.1 (0:Int) (999999:Int)) (Y (K4,()))).bind λg=>let e:Bool:=((d&&g.1)&&(b.1||(a.2.1==0)))&&(b.2.1||(a.2.2.1==0));(cond e (Rz a) (Y (K4,()))).bind λh=>Y (e&&h.1,())
def XY(n:Int):Oa Ba:=Ze (-9223372036854775808<=n/\n<=9223372036854775807) (Y (Go.Lib.itoa n,()))
def dd(a:Int):Oa Ba:=(XY a).bind λb=>Y (b.1,())
def oy(a:Z4)(c:Bool)(b:Ba):Oa Ba:=cond c (Ze (([32]:Ba).length+(a:Zaj).length<=Ym)<|Ze (b.length+(([32]:Ba)++(a:Zaj)).length<=Ym)<|some (b++(([32]:Ba)++(a:Zaj)),())) (Y (b,()))
def ox(a:Z4)(e d:Bool)(b:Ba):Oa Ba:=cond e ((dd a.2.2.1).bind λc=>Ze (([32]:Ba).length+c.1.length<=Ym)<|Ze (b.length+(([32]:Ba)++c.1).length<=Ym)<|oy a d (b++(([32]:Ba)++c.1))) (oy a d b)
def oS(a:Z4):Oa Ba:=(mX a).bind λe=>cond (!e.1) (Y (([]:Ba),())) ((ta a.1).bind λb=>(K9 a.1).bind λc=>cond b.1 ((dd a.2.1).bind λd=>Ze (([32]:Ba).length+d.1.length<=Ym)<|Ze (c.1.length+(([32]:Ba)++d.1).length<=Ym)<|ox a b.2.1 b.2.2.1 (c.1++(([32]:Ba)++d.1))) (ox a b.2.1 b.2.2.1 c.1))
def MM(s:Ba):Oc Int Bool:=Ze (s.length<=18) (Y ((Lj s).getD 0,(Lj s).isSome,()))
def cV(b:Ba):Oc Int Bool:=bif La ((b.length:Int)>(10:Int))then Y ((0:Int),K4,()) else(MM b).bind λa=>(cond (!a.2.1) (Y (([]:Ba),())) (XY a.1)).bind λd=>let c:Bool:=(!a.2.1)||(!(d.1==b));(gG c (Zy a.1 (-999999999:Int) (999999999:Int))).bind λe=>bif c||(!e.1)then Y ((0:Int),K4,()) else Y (a.1,Lb,())
def rf(K1:(Ba×Z4×Ba×Ba×Z4×Int×Unit)->Oc Z4 Bool)(a:Ba)(b:Z4)(c d:Ba)(e:Z4)(f:Int):Oc Z4 Bool:=K1 (a,b,c,d,e,K3.wrap (f+1),())
def Kq(c:Ba)(e a:Z4):Oc Z4 Bool:=(mX a).bind λb=>(cond (!b.1) (Y (([]:Ba),())) (oS a)).bind λd=>cond ((!b.1)||(!(d.1==c))) (Y (mi,K4,())) (Y (a,Lb,()))
def Qb2(b:Ba)(c:Z4)(d e:Ba)(f:Z4)(a:Int):Nat:=((12:Int)-a).toNat+2
def Vl:Nat->Ba->Z4->Ba->Ba->Z4->Int->Oc Z4 Bool|0,_,_,_,_,_,_=>Lc|N+1,b,c,h,e,a,f=>cond (La (f<=(12:Int))) ((K9 f).bind λn=>cond (n.1==h) (rf (λv=>Vl N v.1 v.2.1 v.2.2.1 v.2.2.2.1 v.2.2.2.2.1 v.2.2.2.2.2.1) b c h e (f,a.2) f) (rf (λv=>Vl N v.1 v.2.1 v.2.2.1 v.2.2.2.1 v.2.2.2.2.1 v.2.2.2.2.2.1) b c h e a f)) ((ta a.1).bind λd=>cond ((Lb&&(!d.1))||(K4&&(!d.2.1))) (cond ((K4&&(!d.1))||(Lb&&(!d.2.1))) (cond d.2.2.1 (Kq b c (tD a e)) (Kq b c a)) ((wo e ([32]:Ba)).bind λl=>(cV l.1).bind λi=>cond (!i.2.1) (Y (mi,K4,())) (cond d.2.2.1 (Kq b c (a.1,a.2.1,i.1,l.2.1,a.2.2.2.2)) (Kq b c (tP a i.1))))) ((wo e ([32]:Ba)).bind λj=>(cV j.1).bind λg=>cond (!g.2.1) (Y (mi,K4,())) (cond ((K4&&(!d.1))||(Lb&&(!d.2.1))) (cond d.2.2.1 (Kq b c (a.1,g.1,a.2.2.1,j.2.1,a.2.2.2.2)) (Kq b c (tT a g.1))) ((wo j.2.1 ([32]:Ba)).bind λm=>(cV m.1).bind λk=>cond (!k.2.1) (Y (mi,K4,())) (cond d.2.2.1 (Kq b c (a.1,g.1,k.1,m.2.1,a.2.2.2.2)) (Kq b c (a.1,g.1,k.1,a.2.2.2)))))))
def rP(b:Ba):Oc Z4 Bool:=(wo b ([32]:Ba)).bind λa=>Vl (Qb2 b mi a.1 a.2.1 mi (1:Int)) b mi a.1 a.2.1 mi (1:Int)
def me(c:List Ba)(d:List Z4)(e:Int)(f:List Ba)(a b:Int):Nat:=(a-b).toNat+1
def ch:Nat->List Ba->List Z4->Int->List Ba->Int->Int->Oc (List Z4) Bool|0,_,_,_,_,_,_=>Lc|N+1,c,d,b,e,g,a=>cond (La (a<g)) (gH e a<|(rP (e.getD a.toNat ([]:Ba))).bind λf=>cond (!f.2.1) (Y (([]:List Z4),K4,())) (Ze (d.length+([f.1]).length<=Qg)<|ch N c (d++([f.1])) b e g (K3.wrap (a+1)))) (gH c b<|cond (!((c.getD b.toNat ([]:Ba))==([]:Ba))) (Y (([]:List Z4),K4,())) (Y (d,Lb,())))
def ux(d:Ba):Oc (List Z4) Bool:=(tl d ([10]:Ba)).bind λa=>let b:Int:=K3.wrap ((a.1.length:Int)- (1:Int));Ze (0<=(0:Int)/\(0:Int)<=b/\b<=a.1.length)<|let c:List Ba:=(a.1.drop (0:Int).toNat).take (b.toNat- (0:Int).toNat);ch (me a.1 ([]:List Z4) b c (c.length:Int) (0:Int)) a.1 ([]:List Z4) b c (c.length:Int) (0:Int)
def kn(a:Q9):Oa Q9:=Ze (([]:List Int).length+(a:SW).length<=Qg)<|some ((a.1,a.2.1,(a:Zab),([]:List Int)++(a:SW),a.2.2.2.2),())
def am(a:List Zi):Oa (List Zi):=Ze (([]:List Zi).length+a.length<=Qg)<|some (([]:List Zi)++a,())
def Vy(a:Zn):Oa Zn:=(kn a.2.1).bind λb=>(am (a:ST)).bind λc=>(am (a:Zae)).bind λd=>(am (a:Zag)).bind λe=>Y ((a.1,b.1,c.1,d.1,e.1,(a:Zbw).2),())
def dX(a:Zx):Oa Zx:=Ze (([]:List Z6).length+a.2.1.length<=Qg)<|some ((a.1,([]:List Z6)++a.2.1,()),())
def aW(a:Zz):Oa Zz:=(dX a.2.1).bind λb=>Y ((a.1,b.1,a.2.2),())
def mo(a:Zh):Oa Zh:=(Vy a.2.1).bind λb=>(aW (a:Fd)).bind λc=>Y ((a.1,b.1,(a:LE),c.1,a.2.2.2.2),())
def V7(c d:List Zh)(a b:Int):Nat:=(a-b).toNat+1
def jp:Nat->List Zh->List Zh->Int->Int->Oa (List Zh)|0,_,_,_,_=>Lc|N+1,b,c,d,a=>cond (La (a<d)) (gH c a<|(mo (gJ c a)).bind λe=>Ze (b.length+([e.1]).length<=Qg)<|jp N (b++([e.1])) c d (K3.wrap (a+1))) (Y (b,()))
def cn(a:List Zh):Oa (List Zh):=jp (V7 ([]:List Zh) a (a.length:Int) (0:Int)) ([]:List Zh) a (a.length:Int) (0:Int)
def fV(c d:List Qa)(a b:Int):Nat:=(a-b).toNat+1
def jo:Nat->List Qa->List Qa->Int->Int->Oa (List Qa)|0,_,_,_,_=>Lc|N+1,c,b,d,a=>bif La (a<d)then gH b a<|Ze (([]:List Zj).length+(gI b a).2.1.length<=Qg)<|let e:List Qa:=[((gI b a).1,([]:List Zj)++(gI b a).2.1,())];Ze (c.length+e.length<=Qg)<|jo N (c++e) b d (K3.wrap (a+1)) else Y (c,())
def YU(a:List Qa):Oa (List Qa):=jo (fV ([]:List Qa) a (a.length:Int) (0:Int)) ([]:List Qa) a (a.length:Int) (0:Int)
def Zu(a:Zf):Oa Zf:=(cn (a:Id)).bind λb=>(YU (a:Zac)).bind λc=>Y ((a.1,a.2.1,a.2.2.1,b.1,(a:Zah),(a:Zai),(a:Zar),(a:Zaq),(a:Zay),(a:Zav),(a:ZaZ).2.1,(a:ZaB).1,(a:ZaB).2.1,(a:ZaN).1,(a:ZaI),c.1,(a:ZaT).2),())
def HP(a:Int):Oa Bool:=(Zy a (0:Int) (255:Int)).bind λb=>Y (!b.1,())
def Y0(c:List Int)(d:Unit)(a b:Int):Nat:=(a-b).toNat+1
def Yi:Nat->List Int->Unit->Int->Int->Oa Int|0,_,_,_,_=>Lc|N+1,b,e,c,a=>cond (La (a<c)) (Ze (0<=a/\a<b.length)<|(HP (b.getD a.toNat (0:Int))).bind λd=>cond d.1 (Y (a,())) (Yi N b () c (K3.wrap (a+1)))) (Y ((-1:Int),()))
def ae(a:List Int):Oa Int:=Yi (Y0 a () (a.length:Int) (0:Int)) a () (a.length:Int) (0:Int)
def V0(a:List Int):Oa Bool:=(ae a).bind λb=>Y (La (b.1>=(0:Int)),())
def qu(a:Q9):Oa Bool:=(mq a.1).bind λd=>let b:Bool:=(!d.1)||(((a:SW).length:Int) !=a.1);(gG b (V0 (a:SW))).bind λe=>bif b||e.1 then Y (K4,()) else(Xk a.2.1).bind λc=>(cond c.1 (Zy (a:Zab) a.2.1 (min (K3.wrap (a.2.1+a.1)) (4611686018427387903:Int))) (Y (K4,()))).bind λf=>Y (c.1&&f.1,())
def QK(a:Zi):Oa Bool:=Y (((La (a.1>=(0:Int)))&&(La (a.1<a.2.1)))&&(La (a.2.1<=(4611686018427387903:Int))),())
def tw(c d:List Zi)(a b:Int):Nat:=(a-b).toNat+1
def oW:Nat->List Zi->List Zi->Int->Int->Oa Bool|0,_,_,_,_=>Lc|N+1,c,b,d,a=>cond (La (a<d)) (Ze (0<=a/\a<b.length)<|(QK (b.getD a.toNat Z3)).bind λe=>Ze (((!e.1)=K4->((La (a>(0:Int)))=Lb->(0<=(K3.wrap (a-1))/\(K3.wrap (a-1))<c.length))))<|cond ((!e.1)||((La (a>(0:Int)))&&(La ((b.getD a.toNat Z3).1<=(c.getD (K3.wrap (a-1)).toNat Z3).2.1)))) (Y (K4,())) (oW N c b d (K3.wrap (a+1)))) (Y (Lb,()))
def al(a:List Zi):Oa Bool:=oW (tw a a (a.length:Int) (0:Int)) a a (a.length:Int) (0:Int)
def md(c:Int)(d:List Zi)(a b:Int):Nat:=(a-b).toNat+1
def gn:Nat->Int->List Zi->Int->Int->Oa Int|0,_,_,_,_=>Lc|N+1,c,b,d,a=>cond (La (a<d)) (Ze (0<=a/\a<b.length)<|gn N (K3.wrap (c+(K3.wrap ((b.getD a.toNat Z3).2.1- (b.getD a.toNat Z3).1)))) b d (K3.wrap (a+1))) (Y (c,()))
def db(a:List Zi):Oa Int:=(al a).bind λb=>cond (!b.1) (Y ((-1:Int),())) (gn (md (0:Int) a (a.length:Int) (0:Int)) (0:Int) a (a.length:Int) (0:Int))
def oP(K1:(Zi×List Zi×Bool×List Zi×Int×Int×Unit)->Oa (List Zi))(c:Zi)(a:List Zi)(d:Bool)(b:Zi)(e:List Zi)(f g:Int):Oa (List Zi):=Ze (a.length+([b]).length<=Qg)<|K1 (c,a++([b]),d,e,f,K3.wrap (g+1),())
def lP(c:Zi)(d:List Zi)(e:Bool)(f:List Zi)(a b:Int):Nat:=(a-b).toNat+1
def K6:Nat->Zi->List Zi->Bool->List Zi->Int->Int->Oa (List Zi)|0,_,_,_,_,_,_=>Lc|N+1,c,d,e,b,f,a=>cond (La (a<f)) (Ze (0<=a/\a<b.length)<|cond (La ((b.getD a.toNat Z3).2.1<c.1)) (Ze (d.length+([(b.getD a.toNat Z3)]).length<=Qg)<|K6 N c (d++([(b.getD a.toNat Z3)])) e b f (K3.wrap (a+1))) (cond (La ((b.getD a.toNat Z3).1>c.2.1)) (cond (!e) (Ze (d.length+([c]).length<=Qg)<|oP (λv=>K6 N v.1 v.2.1 v.2.2.1 v.2.2.2.1 v.2.2.2.2.1 v.2.2.2.2.2.1) c (d++([c])) Lb (b.getD a.toNat Z3) b f a) (oP (λv=>K6 N v.1 v.2.1 v.2.2.1 v.2.2.2.1 v.2.2.2.2.1 v.2.2.2.2.2.1) c d e (b.getD a.toNat Z3) b f a)) (K6 N (min c.1 (b.getD a.toNat Z3).1,max c.2.1 (b.getD a.toNat Z3).2.1,()) d e b f (K3.wrap (a+1))))) (cond (!e) (Ze (d.length+([c]).length<=Qg)<|some (d++([c]),())) (Y (d,())))
def fS(a:List Zi)(b:Zi):Oa (List Zi):=(al a).bind λc=>(gG (!c.1) (QK b)).bind λd=>cond ((!c.1)||(!d.1)) ((am a).bind λe=>Y (e.1,())) (K6 (lP b ([]:List Zi) K4 a (a.length:Int) (0:Int)) b ([]:List Zi) K4 a (a.length:Int) (0:Int))
def jb(a:List Zi)(c:Int):Oa Bool:=let b:Int:=K3.wrap ((a.length:Int)- (1:Int));Ze (((La ((a.length:Int)>(0:Int)))=Lb->(0<=b/\b<a.length)))<|Y ((La ((a.length:Int)>(0:Int)))&&(La ((gK a b).2.1>c)),())
def lR(c:Int)(d e:List Zi)(a b:Int):Nat:=(a-b).toNat+1
def pd:Nat->Int->List Zi->List Zi->Int->Int->Oa Bool|0,_,_,_,_,_=>Lc|N+1,b,c,d,e,a=>cond (La (a<e)) (Ze (0<=a/\a<d.length)<|(fS c (d.getD a.toNat Z3)).bind λg=>pd N b g.1 d e (K3.wrap (a+1))) ((db c).bind λf=>(cond (f.1==b) (jb c b) (Y (K4,()))).bind λh=>Y ((f.1==b)&&(!h.1),()))
def KW(d e a:List Zi)(c:Int):Oa Bool:=(db d).bind λg=>(db e).bind λh=>(db a).bind λi=>cond ((K3.wrap ((K3.wrap (g.1+h.1))+i.1)) !=c) (Y (K4,())) ((am d).bind λf=>(am e).bind λb=>Ze (b.1.length+a.length<=Qg)<|pd (lR c f.1 (b.1++a) ((b.1++a).length:Int) (0:Int)) c f.1 (b.1++a) ((b.1++a).length:Int) (0:Int))
def tv(c:Int)(d:List Zi)(a b:Int):Nat:=(a-b).toNat+1
def ks:Nat->Int->List Zi->Int->Int->Oa Int|0,_,_,_,_=>Lc|N+1,c,b,d,a=>cond (La (a<d)) (Ze (0<=a/\a<b.length)<|cond ((La ((b.getD a.toNat Z3).1<=c))&&(La (c<(b.getD a.toNat Z3).2.1))) (ks N (b.getD a.toNat Z3).2.1 b d (K3.wrap (a+1))) (ks N c b d (K3.wrap (a+1)))) (Y (c,()))
def sx(a:List Zi)(b:Int):Oa Int:=(al a).bind λc=>cond ((!c.1)||(La (b<(0:Int)))) (Y ((-1:Int),())) (ks (tv b a (a.length:Int) (0:Int)) b a (a.length:Int) (0:Int))
def lq(a:Zn):Oa Int:=cond (((a:Zaf)==3)&&(a.2.1.2.1==(a:Zad))) (Y ((3:Int),())) (cond ((((a:Zaf)==2)||((a:Zaf)==3))||(((a:Zaf)==1)&&(a.1==2))) (Y ((2:Int),())) (cond ((La ((a:Zal)>(0:Int)))||(((a:Zaf)==1)&&(a.1==1))) (Y ((1:Int),())) (Y ((0:Int),()))))
def oX(a:Zn)(f:Int):Oa Bool:=(KW (a:ST) (a:Zae) (a:Zag) (a:Zad)).bind λb=>(cond b.1 (sx (a:Zag) (0:Int)) (Y ((0:Int),()))).bind λc=>(cond (b.1&&(c.1==a.2.1.2.1)) (jb (a:Zae) (a:Zal)) (Y (K4,()))).bind λg=>let d:Bool:=(b.1&&(c.1==a.2.1.2.1))&&(!g.1);(cond d (jb (a:Zag) (a:Zal)) (Y (K4,()))).bind λh=>let e:Bool:=((d&&(!h.1))&&((a:ZaQ)==0))&&((a:Zam)==f);(cond e (lq a) (Y ((0:Int),()))).bind λi=>Y (e&&(a.1==i.1),())
def nW(a:Zn):Oa Bool:=(qu a.2.1).bind λb=>(gG (!b.1) (al (a:ST))).bind λe=>(gG ((!b.1)||(!e.1)) (al (a:Zae))).bind λh=>let c:Bool:=((!b.1)||(!e.1))||(!h.1);(gG c (al (a:Zag))).bind λf=>(gG (c||(!f.1)) (Zy (a:Zal) (0:Int) (a:Zad))).bind λi=>let d:Bool:=(c||(!f.1))||(!i.1);(gG d (Xk (a:ZaQ))).bind λg=>(gG (d||(!g.1)) (Zy (a:Zaf) (0:Int) (3:Int))).bind λj=>bif(d||(!g.1))||(!j.1)then Y (K4,()) else bif(a.1==4)||(a.1==5)then Y (((((((((a:ST).length:Int)==(0:Int))&&(((a:Zae).length:Int)==(0:Int)))&&(((a:Zag).length:Int)==(0:Int)))&&(a.2.1.2.1==(a:Zad)))&&((a:Zam)==(a:Zal)))&&((a:Zal)==(a:Zad)))&&((a:Zaf)==0),()) else bif (a:Zaf)==0 then oX a (-1:Int) else oX a (a:Zad)
def cU(a:Qq):Oa Bool:=(Xk a.1).bind λb=>(cond b.1 (Zy a.2.1 (0:Int) a.1) (Y (K4,()))).bind λc=>(cond (b.1&&c.1) (Zy a.2.2.1 (-1:Int) a.1) (Y (K4,()))).bind λd=>(cond ((b.1&&c.1)&&d.1) (Zy (a:ZaC) (-1:Int) a.1) (Y (K4,()))).bind λe=>Y (((b.1&&c.1)&&d.1)&&e.1,())
def gi(a:Z6):Oa Int:=Y (K3.wrap (a.1+(a.2.1.length:Int)),())
def lQ(c:Int)(d:List Z6)(a b:Int):Nat:=(a-b).toNat+1
def oV:Nat->Int->List Z6->Int->Int->Oa Bool|0,_,_,_,_=>Lc|N+1,d,b,c,a=>cond (La (a<c)) (Ze (0<=a/\a<b.length)<|cond (((((b.getD a.toNat Qr).2.1.length:Int)==(0:Int))||(La ((b.getD a.toNat Qr).1<d)))||(La ((b.getD a.toNat Qr).1>(K3.wrap ((4611686018427387903:Int)- ((b.getD a.toNat Qr).2.1.length:Int)))))) (Y (K4,())) ((gi (b.getD a.toNat Qr)).bind λe=>oV N (K3.wrap (e.1+1)) b c (K3.wrap (a+1)))) (Y (Lb,()))
def nV(a:Zx):Oa Bool:=(Xk a.1).bind λb=>cond (!b.1) (Y (K4,())) (oV (lQ a.1 a.2.1 (a.2.1.length:Int) (0:Int)) a.1 a.2.1 (a.2.1.length:Int) (0:Int))
def Iu(a:Zx):Oa Int:=(nV a).bind λc=>bif(!c.1)||((a.2.1.length:Int)==(0:Int))then Y (a.1,()) else let b:Int:=K3.wrap ((a.2.1.length:Int)- (1:Int));gH a.2.1 b<|(gi (gL a.2.1 b)).bind λd=>Y (d.1,())
def mn(a:Zx):Oa Int:=(nV a).bind λc=>let b:Bool:=(!c.1)||((a.2.1.length:Int)==(0:Int));Ze ((b=K4->(0<=(0:Int)/\(0:Int)<a.2.1.length)))<|bif b||((a.2.1.getD (0:Int).toNat Qr).1 !=a.1)then Y ((0:Int),()) else Ze (0<=(0:Int)/\(0:Int)<a.2.1.length)<|Y (((a.2.1.getD (0:Int).toNat Qr).2.1.length:Int),())
def yh(a:Zx):Oa Int:=(mn a).bind λb=>Y (K3.wrap (a.1+b.1),())
def fc(a:Zz)(b:Bool):Oa Bool:=cond b (Y (((a:Or)==(a:Zau))&&((a.2.1.2.1.length:Int)==(0:Int)),())) (Y (K4,()))
def bw(a:Zz):Oa Bool:=(nV a.2.1).bind λd=>(cond (!d.1) (Y ((0:Int),())) (Iu a.2.1)).bind λg=>let b:Bool:=(!d.1)||(La (g.1>(a:Zau)));(gG b (Xk (a:Zau))).bind λe=>(gG (b||(!e.1)) (Xk (a:ZaH))).bind λh=>let f:Bool:=(b||(!e.1))||(!h.1);(cond ((a:Or) !=(-1:Int)) (gG f (Zy (a:Or) (a:Zau) (4611686018427387903:Int))) (Y (K4,()))).bind λi=>bif f||(((a:Or) !=(-1:Int))&&(!i.1))then Y (K4,()) else(cond ((a:Or) !=(-1:Int)) (yh a.2.1) (Y ((0:Int),()))).bind λj=>let c:Bool:=((a:Or) !=(-1:Int))&&(j.1==(a:Or));bif a.1==0 then Y (((a:Or)==(-1:Int))&&((a:ZaH)==0),()) else bif a.1==1 then Y ((((a:Or) !=(-1:Int))&&(!c))&&((a:ZaH)==0),()) else bif a.1==2 then Y (c&&((a:ZaH)==0),()) else bif a.1==3 then Y ((c&&((a:ZaH)==0))&&((a.2.1.2.1.length:Int)==(0:Int)),()) else bif a.1==4 then fc a (a.1==4) else fc a (a.1==5)
def km(a:Qp):Oa Bool:=(Zy a.2.1 (1:Int) (4096:Int)).bind λb=>(cond b.1 (Zy a.1 (1:Int) a.2.1) (Y (K4,()))).bind λc=>(cond (b.1&&c.1) (Zy a.2.2.1 (1:Int) (4611686018427387903:Int)) (Y (K4,()))).bind λd=>(cond ((b.1&&c.1)&&d.1) (Zy (a:ZaD) (0:Int) a.2.2.1) (Y (K4,()))).bind λg=>let e:Bool:=((b.1&&c.1)&&d.1)&&g.1;(cond e (Zy (a:ZaL) (0:Int) (a:ZaD)) (Y (K4,()))).bind λh=>let f:Bool:=(e&&h.1)&&(La (a.2.2.1<=(K3.wrap ((a:ZaL)+a.1))));(cond f (Zy (a:Zbr) (0:Int) (1000000:Int)) (Y (K4,()))).bind λi=>Y (f&&i.1,())
def mj(a:Qz):Oa Bool:=(Zy a.1 (0:Int) (7:Int)).bind λb=>Y (b.1,())
def yc(a:Zh):Oa Bool:=(Xk a.1).bind λb=>(gG (!b.1) (Xk (a:Zaw).1)).bind λe=>(gG ((!b.1)||(!e.1)) (nW a.2.1)).bind λh=>let c:Bool:=((!b.1)||(!e.1))||(!h.1);(gG c (cU (a:LE))).bind λf=>(gG (c||(!f.1)) (bw (a:Fd))).bind λi=>let d:Bool:=(c||(!f.1))||(!i.1);(gG d (km (a:Fn))).bind λg=>(gG (d||(!g.1)) (mj (a:Zaz))).bind λj=>bif(d||(!g.1))||(!j.1)then Y (K4,()) else bif(((!(a:Zak))&&(!(a:Zao)))||(La ((a:Zba)>(a:LE).2.1)))||(La ((a:Zbg).1>(a:ZaY).1))then Y (K4,()) else bif(((a:ZaE).1&&(a.2.1.1 !=4))||((a:ZaS)&&(!(a:ZaM))))||(((a:Zaw).1 !=0)&&(!(a:ZaM)))then Y (K4,()) else bif(!(a:Zak))&&(((a.2.1.1 !=0)||((a:ZaR).2.2.1 !=0))||((a:ZaV).1 !=(-1:Int)))then Y (K4,()) else Y ((a:Zao)||((((a:Zat)==0)&&((a:Zbg).1==0))&&(!(a:ZaM))),())
def iA(c d:List Zh)(a b:Int):Nat:=(a-b).toNat+1
def bL:Nat->List Zh->List Zh->Int->Int->Oa Bool|0,_,_,_,_=>Lc|N+1,c,b,d,a=>bif La (a<d)then Ze (0<=a/\a<b.length)<|(cond (La (a>=(24:Int))) (Y (K4,())) (yc (b.getD a.toNat Zc))).bind λf=>let e:Bool:=(La (a>=(24:Int)))||(!f.1);Ze ((e=K4->((La (a>(0:Int)))=Lb->(0<=(K3.wrap (a-1))/\(K3.wrap (a-1))<c.length))))<|bif e||((La (a>(0:Int)))&&(La ((c.getD (K3.wrap (a-1)).toNat Zc).1>=(b.getD a.toNat Zc).1)))then Y (K4,()) else bL N c b d (K3.wrap (a+1)) else Y (Lb,())
def ja(a:List Zh):Oa Bool:=bL (iA a a (a.length:Int) (0:Int)) a a (a.length:Int) (0:Int)
def wy(a:aP):Oa Bool:=(Zy a.1 (0:Int) (1152921504606846976:Int)).bind λb=>(cond b.1 (Zy a.2.1 (0:Int) a.1) (Y (K4,()))).bind λc=>(cond (b.1&&c.1) (Zy a.2.2.1 (-1:Int) a.1) (Y (K4,()))).bind λd=>Y ((b.1&&c.1)&&d.1,())
def rc(a:Qq):Oa Bool:=(Zy a.1 (0:Int) (1000:Int)).bind λb=>(cond b.1 (Zy a.2.1 a.1 (1152921504606846976:Int)) (Y (K4,()))).bind λc=>(cond (b.1&&c.1) (Zy a.2.2.1 (0:Int) a.2.1) (Y (K4,()))).bind λd=>(cond ((b.1&&c.1)&&d.1) (Zy (a:ZaC) (0:Int) a.2.2.1) (Y (K4,()))).bind λe=>Y ((((b.1&&c.1)&&d.1)&&e.1)&&(La (a.2.1<=(K3.wrap ((a:ZaC)+a.1)))),())
def G9(a:Int):Oa Ba:=cond (a==4) (Y (([114,101,115,101,116]:Ba),())) (cond (a==5) (Y (([115,116,111,112]:Ba),())) (cond (a==8) (Y (([115,116,114,101,97,109]:Ba),())) (cond (a==16) (Y (([109,97,120,100,97,116,97]:Ba),())) (cond (a==17) (Y (([109,97,120,115,116,114,101,97,109,100,97,116,97]:Ba),())) (cond (a==18) (Y (([109,97,120,115,116,114,101,97,109,115]:Ba),())) (cond (a==20) (Y (([100,97,116,97,98,108,111,99,107,101,100]:Ba),())) (cond (a==21) (Y (([115,116,114,101,97,109,100,97,116,97,98,108,111,99,107,101,100]:Ba),())) (cond (a==22) (Y (([115,116,114,101,97,109,115,98,108,111,99,107,101,100]:Ba),())) (Y (([]:Ba),()))))))))))
def Wi(a:Bool):Oa Bool:=cond a (Y (Lb,())) (Y (K4,()))
def Vj(a:Zj):Oa Bool:=cond (a.1==4) (Wi (a.1==4)) (cond (a.1==5) (Wi (a.1==5)) (cond (a.1==8) (Wi (a.1==8)) (cond (a.1==17) (Wi (a.1==17)) (Wi (a.1==21)))))
def BV(b d a:Zj)(c:Bool):Oa Zj:=cond c (Y ((a.1,a.2.1,(a:LT),(a:IO),(a:Zas),(a:Zap),(b:Zan),(a:Zax),(b:ZaA),(a:Zbb).2.2.2),())) (Y ((tG a (b:Zan)),()))
def I4(b c a:Zj):Oa Zj:=cond (b.1==4) (Y ((a.1,a.2.1,(a:LT),(a:IO),(a:Zas),(b:Zap),(a:Zan),(b:Zax),(a:Zbb).2.2),())) (cond (b.1==5) (Y ((tU a (b:Zap)),())) (cond (b.1==8) (Y ((a.1,a.2.1,(b:LT),(b:IO),(b:Zas),a.2.2.2.2.2),())) (cond (b.1==18) (BV b c a (b.1==18)) (BV b c a (b.1==22)))))
def ND(a:Zj):Oa Zj:=(Vj a).bind λb=>cond b.1 (I4 a Z9 (a.1,a.2.1,(0:Int),([]:Ba),K4,(0:Int),(0:Int),(0:Int),K4,())) (I4 a Z9 (a.1,(0:Int),(0:Int),([]:Ba),K4,(0:Int),(0:Int),(0:Int),K4,()))
def Wq(a:Zj):Oa Bool:=(G9 a.1).bind λd=>(cond (d.1==([]:Ba)) (Y (Z9,())) (ND a)).bind λh=>let b:Bool:=(d.1==([]:Ba))||(!(TR Zt a h.1));(gG b (Xk a.2.1)).bind λe=>(gG (b||(!e.1)) (Xk (a:LT))).bind λi=>let c:Bool:=(b||(!e.1))||(!i.1);(gG c (Xk (a:Zap))).bind λf=>(gG (c||(!f.1)) (Xk (a:Zan))).bind λj=>let g:Bool:=(c||(!f.1))||(!j.1);(gG g (Xk (a:Zax))).bind λk=>bif g||(!k.1)then Y (K4,()) else bif(a.1==18)||(a.1==22)then Y (La ((a:Zan)<=(1152921504606846976:Int)),()) else Y ((La (((a:IO).length:Int)<=(400:Int)))&&(La ((a:LT)<=(K3.wrap ((4611686018427387903:Int)- ((a:IO).length:Int))))),())
def QI(a:Zj):Oa Bool:=(Wq a).bind λb=>Y (!b.1,())
def X6(c:List Zj)(d:Unit)(a b:Int):Nat:=(a-b).toNat+1
def Qy:Nat->List Zj->Unit->Int->Int->Oa Int|0,_,_,_,_=>Lc|N+1,b,e,c,a=>cond (La (a<c)) (Ze (0<=a/\a<b.length)<|(QI (b.getD a.toNat Z9)).bind λd=>cond d.1 (Y (a,())) (Qy N b () c (K3.wrap (a+1)))) (Y ((-1:Int),()))
def Y3(a:List Zj):Oa Int:=Qy (X6 a () (a.length:Int) (0:Int)) a () (a.length:Int) (0:Int)
def Xh(a:List Zj):Oa Bool:=(Y3 a).bind λb=>Y (La (b.1>=(0:Int)),())
def pb(c:List Qa)(d:Int)(e:List Qa)(a b:Int):Nat:=(a-b).toNat+1
def ll:Nat->List Qa->Int->List Qa->Int->Int->Oa Bool|0,_,_,_,_,_=>Lc|N+1,c,d,b,e,a=>bif La (a<e)then Ze (0<=a/\a<b.length)<|(Zy (b.getD a.toNat Xq).1 (0:Int) (K3.wrap (d-1))).bind λf=>Ze (((!f.1)=K4->((La (a>(0:Int)))=Lb->(0<=(K3.wrap (a-1))/\(K3.wrap (a-1))<c.length))))<|let g:Bool:=(!f.1)||((La (a>(0:Int)))&&(La ((c.getD (K3.wrap (a-1)).toNat Xq).1>=(b.getD a.toNat Xq).1)));(cond g (Y (K4,())) (Xh (b.getD a.toNat Xq).2.1)).bind λh=>bif g||h.1 then Y (K4,()) else ll N c d b e (K3.wrap (a+1)) else Y (Lb,())
def VX(a:List Qa)(b:Int):Oa Bool:=ll (pb a b a (a.length:Int) (0:Int)) a b a (a.length:Int) (0:Int)
def Zfy(a:Zh):Oa Int:=Y ((a:Zba),())
def bj(c:Unit)(d:Int)(e:List Zh)(a b:Int):Nat:=(a-b).toNat+1
def J2:Nat->Unit->Int->List Zh->Int->Int->Oa Int|0,_,_,_,_,_=>Lc|N+1,f,c,b,d,a=>cond (La (a<d)) (Ze (0<=a/\a<b.length)<|(Zfy (b.getD a.toNat Zc)).bind λe=>J2 N () (min (K3.wrap (c+e.1)) (4611686018427387904:Int)) b d (K3.wrap (a+1))) (Y (c,()))
def kb(a:List Zh):Oa Int:=(ja a).bind λb=>cond (!b.1) (Y ((0:Int),())) (J2 (bj () (0:Int) a (a.length:Int) (0:Int)) () (0:Int) a (a.length:Int) (0:Int))
def QD(a:List Zh):Oa Int:=(kb a).bind λb=>Y (b.1,())
def Zfx(a:Zh):Oa Int:=Y ((a:Zbg).1,())
def bi(c:Unit)(d:Int)(e:List Zh)(a b:Int):Nat:=(a-b).toNat+1
def J1:Nat->Unit->Int->List Zh->Int->Int->Oa Int|0,_,_,_,_,_=>Lc|N+1,f,c,b,d,a=>cond (La (a<d)) (Ze (0<=a/\a<b.length)<|(Zfx (b.getD a.toNat Zc)).bind λe=>J1 N () (min (K3.wrap (c+e.1)) (4611686018427387904:Int)) b d (K3.wrap (a+1))) (Y (c,()))
def ka(a:List Zh):Oa Int:=(ja a).bind λb=>cond (!b.1) (Y ((0:Int),())) (J1 (bi () (0:Int) a (a.length:Int) (0:Int)) () (0:Int) a (a.length:Int) (0:Int))
def QA(a:List Zh):Oa Int:=(ka a).bind λb=>Y (b.1,())
def ck(a:Zf):Oa Bool:=(mW a.2.1).bind λb=>(gG (!b.1) (mW a.2.2.1)).bind λg=>(gG ((!b.1)||(!g.1)) (ja (a:Id))).bind λn=>let c:Bool:=((!b.1)||(!g.1))||(!n.1);(gG c (cU (a:Zah))).bind λh=>(gG (c||(!h.1)) (km (a:Zai))).bind λo=>bif(c||(!h.1))||(!o.1)then Y (K4,()) else(wy (a:Zar)).bind λd=>(gG (!d.1) (wy (a:Zaq))).bind λi=>(gG ((!d.1)||(!i.1)) (rc (a:Zay))).bind λp=>let j:Bool:=((!d.1)||(!i.1))||(!p.1);(gG j (rc (a:Zav))).bind λq=>bif j||(!q.1)then Y (K4,()) else(Zy (a:ZaN).1 (-1:Int) (4611686018427387903:Int)).bind λe=>(gG (!e.1) (Zy (a:ZaI) (0:Int) (1000000:Int))).bind λk=>(gG ((!e.1)||(!k.1)) (Zy (a:ZaT).2.1 (0:Int) (1000000:Int))).bind λr=>let l:Bool:=((!e.1)||(!k.1))||(!r.1);(gG l (Zy (a:ZaG) (0:Int) (255:Int))).bind λs=>bif l||(!s.1)then Y (K4,()) else(VX (a:Zac) (a:ZaI)).bind λf=>(cond f.1 (QD (a:Id)) (Y ((0:Int),()))).bind λm=>(cond (f.1&&(La (m.1<=(a:Zah).2.1))) (QA (a:Id)) (Y ((0:Int),()))).bind λt=>Y ((f.1&&(La (m.1<=(a:Zah).2.1)))&&(La (t.1<=(a:Zai).2.2.2.1)),())
def sy(a:Zf):Oa Bool:=Y ((a:ZaG) !=0,())
def Kw(a:Zf):Oa Bool:=(ck a).bind λb=>(cond b.1 (sy a) (Y (K4,()))).bind λc=>Y (b.1&&(!c.1),())
def Kp(a:Zf)(b:Bool):Option ((Bool)×(Zf×Unit)):=cond b (Y (Lb,a,())) (Y (K4,a,()))
def ye(a:aP):Od Int aP Bool:=(wy a).bind λb=>cond (!b.1) (Y ((-1:Int),a,K4,())) (cond (a.2.1==a.1) (Y ((-1:Int),(a.1,a.2.1,a.1,a.2.2.2),K4,())) (Y (K3.wrap ((K3.wrap (a.2.1+1))-1),(a.1,K3.wrap (a.2.1+1),a.2.2),Lb,())))
def pe(a:Bool):Oa Int:=cond a (Y ((1:Int),())) (Y ((0:Int),()))
def Ib(a:Int)(b c:Bool):Oa Int:=(Zy a (0:Int) (1152921504606846975:Int)).bind λd=>cond (!d.1) (Y ((-1:Int),())) ((pe b).bind λe=>(pe c).bind λf=>Y (K3.wrap ((K3.wrap ((K3.wrap ((4:Int)*a))+e.1))+(K3.wrap ((2:Int)*f.1))),()))
def bz(a:Int):Oa Bool:=(Xk a).bind λb=>Y (b.1,())
def Zfv:Oa Zz:=Y (((0:Int),((0:Int),([]:List Z6),()),(-1:Int),(0:Int),(0:Int),()),())
def uZ:Oa Qz:=Y (((3:Int),K4,()),())
def wz(a:Int):Oa Bool:=(bz a).bind λb=>Y (b.1&&((bits .and .i64 a (2:Int))==2),())
def Zis(a:Int):Oa Bool:=(bz a).bind λb=>Y (b.1&&((bits .and .i64 a (1:Int))==1),())
def Vk(c:Bool)(a:Int):Oa Bool:=(bz a).bind λb=>(cond b.1 (Zis a) (Y (K4,()))).bind λd=>Y (b.1&&(d.1==c),())
def uV(d:Bool)(a:Int):Oa Bool:=(bz a).bind λb=>(cond b.1 (wz a) (Y (K4,()))).bind λc=>(gG (!c.1) (cond b.1 (Vk d a) (Y (K4,())))).bind λe=>Y (b.1&&((!c.1)||e.1),())
def iB(d:Bool)(a:Int):Oa Bool:=(bz a).bind λb=>(cond b.1 (wz a) (Y (K4,()))).bind λc=>(gG (!c.1) (cond b.1 (Vk d a) (Y (K4,())))).bind λe=>Y (b.1&&((!c.1)||(!e.1)),())
def Zsf(a:Int):Oc Q9 Bool:=(mq a).bind λb=>cond (!b.1) (Y (HG,K4,())) (Ze (0<=a/\a<=a/\a<=Qg)<|some ((a,(0:Int),(0:Int),Lh a.toNat (0:Int),()),Lb,()))
def RM(b:Int):Oc Zn Bool:=(Zsf b).bind λa=>cond (!a.2.1) (Y (Jn,K4,())) (Y (((0:Int),a.1,([]:List Zi),([]:List Zi),([]:List Zi),(-1:Int),KL),Lb,()))
def vi(d:Bool)(a:Int)(b e:av):Oc Zh Bool:=(bz a).bind λc=>(gG (!c.1) (mW b)).bind λf=>(gG ((!c.1)||(!f.1)) (mW e)).bind λg=>cond (((!c.1)||(!f.1))||(!g.1)) (Y (Zc,K4,())) (Lf Zfv λh=>Lf uZ λi=>(uV d a).bind λj=>(iB d a).bind λk=>(RM b.1).bind λl=>(Th e.2.1).bind λm=>(Ij b.2.1 b.2.2.1).bind λn=>Y ((a,l.1,m.1,h.1,n.1,i.1,j.1,k.1,K4,K4,K4,K4,(0:Int),K4,()),Lb,()))
def Zdr(a:Zh)(b:Int):Oa Bool:=Y (a.1==b,())
def Xw(c:List Zh)(d:Int×Unit)(a b:Int):Nat:=(a-b).toNat+1
def Qu:Nat->List Zh->(Int×Unit)->Int->Int->Oa Int|0,_,_,_,_=>Lc|N+1,b,c,d,a=>cond (La (a<d)) (Ze (0<=a/\a<b.length)<|(Zdr (b.getD a.toNat Zc) c.1).bind λe=>cond e.1 (Y (a,())) (Qu N b c d (K3.wrap (a+1)))) (Y ((-1:Int),()))
def Yu(a:List Zh)(b:Int×Unit):Oa Int:=Qu (Xw a b (a.length:Int) (0:Int)) a b (a.length:Int) (0:Int)
def Z5(a:List Zh)(b:Int):Oa Int:=(Yu a (b,())).bind λc=>Y (c.1,())
def Zfw(a b:Zh):Oa Bool:=Y (La (a.1>b.1),())
def Xz(c:List Zh)(d:Zh×Unit)(a b:Int):Nat:=(a-b).toNat+1
def Qv:Nat->List Zh->(Zh×Unit)->Int->Int->Oa Int|0,_,_,_,_=>Lc|N+1,b,c,d,a=>cond (La (a<d)) (gH b a<|(Zfw (gJ b a) c.1).bind λe=>cond e.1 (Y (a,())) (Qv N b c d (K3.wrap (a+1)))) (Y ((-1:Int),()))
def Xn(a:List Zh)(b:Zh×Unit):Oa Int:=Qv (Xz a b (a.length:Int) (0:Int)) a b (a.length:Int) (0:Int)
def Zot(l:List Zh)(i:Int)(v:List Zh):Oa ((List Zh)×Unit):=Hp l i v
def mZ(a:Zh)(b:List Zh)(c:Int):Oa (List Zh):=(mo a).bind λd=>(Zot b c ([d.1])).bind λe=>Y (e.1.1,())
def lk(b:List Zh)(a:Zh):Oa (List Zh):=(cn b).bind λc=>(Z5 b a.1).bind λd=>cond (La (d.1>=(0:Int))) ((mo a).bind λf=>gH c.1 d.1<|some (c.1.set d.1.toNat f.1,())) ((Xn b (a,())).bind λe=>cond (La (e.1<(0:Int))) (mZ a c.1 (b.length:Int)) (mZ a c.1 e.1))
def bP(d:Bool)(b i a:Zf)(e:Int)(f:Bool):Od Int Zf Bool:=cond (!f) (Y ((-1:Int),a,K4,())) ((Ib e b.1 d).bind λc=>(vi b.1 c.1 b.2.1 b.2.2.1).bind λg=>(lk (a:Id) g.1).bind λh=>Y (c.1,(tD a h.1),Lb,()))
def yN(c:Zf)(d:Bool):Od Int Zf Bool:=(Zu c).bind λh=>(Kw c).bind λi=>cond ((!i.1)||(La (((c:Id).length:Int)>=(24:Int)))) (Y ((-1:Int),h.1,K4,())) ((Kp h.1 d).bind λg=>cond g.1 ((ye (g:Zbc).1).bind λe=>(Kp g.2.1 d).bind λa=>cond a.1 (bP d c Xl (tM a.2.1 e.2.1) e.1 e.2.2.1) (bP d c Xl (tG a.2.1 e.2.1) e.1 e.2.2.1)) ((ye (g:ZaP).2.2.1).bind λf=>(Kp g.2.1 d).bind λb=>cond b.1 (bP d c Xl (tM b.2.1 f.2.1) f.1 f.2.2.1) (bP d c Xl (tG b.2.1 f.2.1) f.1 f.2.2.1)))
def zN(a:Bool)(b c:Ba):Oa Ba:=cond a (Y (b,())) (Y (c,()))
def yg(a:Zn):Oa Bool:=(nW a).bind λb=>Y ((b.1&&((a.1==0)||(a.1==1)))&&((a:Zam)==(-1:Int)),())
def JS(a:Q9):Oa Int:=(qu a).bind λb=>cond (!b.1) (Y ((0:Int),())) (Y (min (K3.wrap (a.1- (K3.wrap ((a:Zab)-a.2.1)))) (K3.wrap ((4611686018427387903:Int)-(a:Zab))),()))
def Qr8(c:Ba)(d e f:Q9)(g a b:Int):Nat:=(a-b).toNat+1
def m9:Nat->Ba->Q9->Q9->Q9->Int->Int->Int->Oc Q9 Int|0,_,_,_,_,_,_,_=>Lc|N+1,d,c,h,a,e,g,b=>bif La (b<g)then Ze (c.1≠0)<|let f:Int:=Ld (K3.wrap ((c:Zab)+b)) c.1;Ze (0<=b/\b<d.length)<|Ze (0<=f/\f<(a:SW).length)<|m9 N d c h (a.1,a.2.1,(a:Zab),(a:SW).set f.toNat (K3.wrap ((d.getD b.toNat 0).toNat:Int)),a.2.2.2.2) e g (K3.wrap (b+1)) else Y ((a.1,a.2.1,K3.wrap ((a:Zab)+e),a.2.2.2),e,())
def uE(b:Ba)(c d e:Q9)(a:Int):Oc Q9 Int:=m9 (Qr8 b c d e a a (0:Int)) b c d e a a (0:Int)
def QG(a:Q9)(b:Ba):Oc Q9 Int:=jj ((kn a).bind λc=>ca 1 ((JS a).bind λd=>uE b a HG c.1 (min (b.length:Int) d.1))) ((kn a).bind λc=>(JS a).bind λd=>uE b a HG c.1 (min (b.length:Int) d.1))
def pa(a:Zn)(d:Ba):Oc Zn Int:=(Vy a).bind λb=>(yg a).bind λe=>cond (!e.1) (Y (b.1,(0:Int),())) ((QG a.2.1 d).bind λc=>(fS (a:ST) ((a:Zad),K3.wrap ((a:Zad)+c.2.1),())).bind λf=>Y ((b.1.1,c.1,f.1,b.1.2.2.2),c.2.1,()))
def gA(c:Zf)(j:Int)(k:Ba)(b:Zf×Unit):Oc Int Zf:=(Z5 (c:Id) j).bind λa=>(Kw c).bind λg=>let d:Bool:=(!g.1)||(La (a.1<(0:Int)));Ze ((d=K4->(K4=Lb->(0<=a.1/\a.1<(c:Id).length))))<|let e:Bool:=K4&&(!(gJ (c:Id) a.1:Zao));Ze (((d||e)=K4->(Lb=Lb->(0<=a.1/\a.1<(c:Id).length))))<|let h:Bool:=Lb&&(!(gJ (c:Id) a.1:Zak));bif(d||e)||h then Y ((0:Int),b.1,()) else gH (b:ZaJ) a.1<|(pa (gJ (b:ZaJ) a.1).2.1 k).bind λf=>let i:List Zh:=(b:ZaJ).set a.1.toNat (tT (gJ (b:ZaJ) a.1) f.1);Y (f.2.1,(tD b.1 i),())
def xd(c:Zf)(j:Int)(k:Ba):Oc Int Zf:=jj ((Zu c).bind λb=>ca 1 (gA c j k b)) ((Zu c).bind λb=>gA c j k b)
def uD(c a:Zx)(b:Ba):Oc Ba Zx:=Y (b,a,())
def uC(c a:Zx)(b:Int):Oc Ba Zx:=bif La (b<=(0:Int))then Y (([]:Ba),a,()) else Ze (0<=(0:Int)/\(0:Int)<a.2.1.length)<|Ze (0<=(0:Int)/\(0:Int)<=b/\b<=(a.2.1.getD (0:Int).toNat Qr).2.1.length)<|let d:Ba:=((a.2.1.getD (0:Int).toNat Qr).2.1.drop (0:Int).toNat).take (b.toNat- (0:Int).toNat);Ze (0<=(0:Int)/\(0:Int)<a.2.1.length)<|bif b==((a.2.1.getD (0:Int).toNat Qr).2.1.length:Int)then Ze (0<=(1:Int)/\(1:Int)<=a.2.1.length)<|uD c (K3.wrap (a.1+b),a.2.1.drop (1:Int).toNat,a.2.2) d else Ze (0<=(0:Int)/\(0:Int)<a.2.1.length)<|Ze (0<=b/\b<=((a.2.1.getD (0:Int).toNat Qr).2.1.length:Int)/\((a.2.1.getD (0:Int).toNat Qr).2.1.length:Int)<=(a.2.1.getD (0:Int).toNat Qr).2.1.length)<|Ze (0<=(0:Int)/\(0:Int)<a.2.1.length)<|uD c (K3.wrap (a.1+b),a.2.1.set (0:Int).toNat (K3.wrap (a.1+b),((a.2.1.getD (0:Int).toNat Qr).2.1.drop b.toNat).take (((a.2.1.getD (0:Int).toNat Qr).2.1.length:Int).toNat-b.toNat),()),a.2.2) d
def QE(a:Zx)(d:Int):Oc Ba Zx:=jj ((dX a).bind λb=>ca 1 ((mn a).bind λc=>uC ((0:Int),([]:List Z6),()) b.1 (min d c.1))) ((dX a).bind λb=>(mn a).bind λc=>uC ((0:Int),([]:List Z6),()) b.1 (min d c.1))
def m7(c a:Zz)(b:Ba):Oc Ba Zz:=Y (b,a,())
def iI(a:Zz)(d:Int):Oc Ba Zz:=(aW a).bind λb=>(bw a).bind λe=>cond (!e.1) (Y (([]:Ba),b.1,())) (cond (a.1==4) (Y (([]:Ba),((5:Int),b.1.2),())) ((QE a.2.1 d).bind λc=>cond ((a.1==2)&&(c.2.1.1==(a:Or))) (m7 qq ((3:Int),c.2.1,b.1.2.2) c.1) (m7 qq (tT b.1 c.2.1) c.1)))
def W7(a:Qp)(b:Int):Oc Qp Bool:=(km a).bind λc=>(gG (!c.1) (Zy b (0:Int) (K3.wrap ((a:ZaD)-(a:ZaL))))).bind λd=>cond ((!c.1)||(!d.1)) (Y (a,K4,())) (Y ((tH a (K3.wrap ((a:ZaL)+b))),Lb,()))
def VW(a:Zh):Oa Bool:=Y (((!(a:Zak))||(a.2.1.1==3))||(a.2.1.1==5),())
def VV(a:Zz):Oa Bool:=(bw a).bind λb=>Y (b.1&&((a.1==3)||(a.1==5)),())
def yJ(a:Zh):Oa Bool:=(gG (!(a:Zao)) (VV (a:Fd))).bind λb=>Y ((!(a:Zao))||b.1,())
def Vd(a:Zh):Oa Bool:=(yc a).bind λb=>(cond b.1 (VW a) (Y (K4,()))).bind λc=>(cond (b.1&&c.1) (yJ a) (Y (K4,()))).bind λd=>Y ((b.1&&c.1)&&d.1,())
def Z2(a:Zf)(b:Int):Option ((Bool)×(Zf×Unit)):=(wz b).bind λc=>cond c.1 (Y (Lb,a,())) (Y (K4,a,()))
def Xc(a:Zf)(b:Int):Option ((Bool)×(Zf×Unit)):=(wz b).bind λc=>cond c.1 (Y (Lb,a,())) (Y (K4,a,()))
def Z0(a:Qq):Oc Qq Bool:=(rc a).bind λb=>cond ((!b.1)||((a:ZaC)==a.2.2.1)) (Y (a,K4,())) (Y ((tD a (K3.wrap ((a:ZaC)+1))),Lb,()))
def gB(m:Zf)(l af:Int)(c:Zf×Unit):Od Ba Bool Zf:=(Z5 (m:Id) l).bind λb=>(Kw m).bind λz=>let r:Bool:=(!z.1)||(La (b.1<(0:Int)));Ze ((r=K4->(Lb=Lb->(0<=b.1/\b.1<(m:Id).length))))<|let u:Bool:=Lb&&(!(gJ (m:Id) b.1:Zao));Ze (((r||u)=K4->(K4=Lb->(0<=b.1/\b.1<(m:Id).length))))<|let A:Bool:=K4&&(!(gJ (m:Id) b.1:Zak));bif(r||u)||A then Y (([]:Ba),K4,c.1,()) else gH (c:ZaJ) b.1<|(iI (gJ (c:ZaJ) b.1:Fd) af).bind λk=>let a:List Zh:=(c:ZaJ).set b.1.toNat (tD (gJ (c:ZaJ) b.1) k.2.1);let B:Bool:=(gJ a b.1:Zat) !=4;let C:Bool:=(gJ a b.1:Zat) !=5;bif B&&C then let v:Int:=K3.wrap ((gJ a b.1:Fd).2.1.1- (gJ a b.1:ZaY).2.1);(W7 (gJ a b.1:Fn) v).bind λD=>let h:List Zh:=a.set b.1.toNat (tH (gJ a b.1) D.1);(W7 c.1.2.2.2.2.2.1 v).bind λw=>let n:Bool:=(gJ a b.1:Zat)==3;let o:Bool:=(gJ a b.1:Zat)==5;(Z5 h l).bind λi=>gH h i.1<|(Vk c.1.1 l).bind λE=>let x:Bool:=E.1||(gJ h i.1:Zaw).2.1;(gG x (Vd (gJ h i.1))).bind λF=>bif x||(!F.1)then Y (k.1,n||o,(tR c.1 h w.1),()) else let G:List Zh:=h.set i.1.toNat (tA (gJ h i.1) Lb);Lf (Xc (tR c.1 G w.1) l) λs=>bif s.1 then(Xc s.2.1 l).bind λd=>bif d.1 then(Z0 (d:ZaU)).bind λH=>let I:Zf:=(tB d.2.1 H.1);Y (k.1,n||o,I,()) else(Z0 (d:ZaO)).bind λJ=>let K:Zf:=(tB d.2.1 J.1);Y (k.1,n||o,K,()) else(Xc s.2.1 l).bind λf=>bif f.1 then(Z0 (f:ZaU)).bind λL=>let M:Zf:=(tC f.2.1 L.1);Y (k.1,n||o,M,()) else(Z0 (f:ZaO)).bind λO=>let P:Zf:=(tC f.2.1 O.1);Y (k.1,n||o,P,()) else let p:Bool:=(gJ a b.1:Zat)==3;let q:Bool:=(gJ a b.1:Zat)==5;(Z5 a l).bind λj=>gH a j.1<|(Vk c.1.1 l).bind λQ=>let y:Bool:=Q.1||(gJ a j.1:Zaw).2.1;(gG y (Vd (gJ a j.1))).bind λS=>bif y||(!S.1)then Y (k.1,p||q,(tD c.1 a),()) else let U:List Zh:=a.set j.1.toNat (tA (gJ a j.1) Lb);(Xc (tD c.1 U) l).bind λt=>bif t.1 then(Xc t.2.1 l).bind λe=>bif e.1 then(Z0 (e:ZaU)).bind λV=>let W:Zf:=(tB e.2.1 V.1);Y (k.1,p||q,W,()) else(Z0 (e:ZaO)).bind λX=>let aa:Zf:=(tB e.2.1 X.1);Y (k.1,p||q,aa,()) else(Xc t.2.1 l).bind λg=>bif g.1 then(Z0 (g:ZaU)).bind λab=>let ac:Zf:=(tC g.2.1 ab.1);Y (k.1,p||q,ac,()) else(Z0 (g:ZaO)).bind λad=>let ae:Zf:=(tC g.2.1 ad.1);Y (k.1,p||q,ae,())
def yO(m:Zf)(l af:Int):Od Ba Bool Zf:=jj ((Zu m).bind λc=>ca 1 (gB m l af c)) ((Zu m).bind λc=>gB m l af c)
def ra(a:Ba)(c:List Int)(b:Int):Nat:=((a.length:Int)-b).toNat+1
def mV:Nat->Ba->List Int->Int->Oa Ba|0,_,_,_=>Lc|N+1,b,c,a=>bif La (a<(b.length:Int))then gH b a<|Ze ((16:Int)≠0)<|let d:Int:=Le.wrap (Lg ((b.getD a.toNat 0).toNat:Int) (16:Int));Ze (0<=d/\d<([48,49,50,51,52,53,54,55,56,57,97,98,99,100,101,102]:Ba).length)<|gH b a<|Ze ((16:Int)≠0)<|let e:Int:=Ld ((b.getD a.toNat 0).toNat:Int) (16:Int);Ze (0<=e/\e<([48,49,50,51,52,53,54,55,56,57,97,98,99,100,101,102]:Ba).length)<|let f:List Int:=[((([48,49,50,51,52,53,54,55,56,57,97,98,99,100,101,102]:Ba).getD d.toNat 0).toNat:Int),((([48,49,50,51,52,53,54,55,56,57,97,98,99,100,101,102]:Ba).getD e.toNat 0).toNat:Int)];Ze (c.length+f.length<=Qg)<|mV N b (c++f) (K3.wrap (a+1)) else Y (Xf c,())
def vd(a:Ba):Oa Ba:=mV (ra a ([]:List Int) (0:Int)) a ([]:List Int) (0:Int)
def ZW(a:Qp):Oa Bool:=(km a).bind λc=>let b:Bool:=c.1&&(La (a.2.2.1<(4611686018427387903:Int)));Ze ((b=Lb->((2:Int)≠0)))<|Y (b&&(La ((K3.wrap ((K3.wrap ((a:ZaL)+a.1))-a.2.2.1))>=(K3.wrap (Lg (K3.wrap (a.1+1)) (2:Int))))),())
def xG(b:Int)(a c:Qp):Oc Qp Bool:=Y ((a.1,a.2.1,min (K3.wrap ((a:ZaL)+a.1)) (4611686018427387903:Int),(a:ZaD),(a:ZaL),b,a.2.2.2.2.2.2),Lb,())
def oZ(a:Qp)(b d:Int):Oc Qp Bool:=(ZW a).bind λc=>(gG (!c.1) (Zy b (a:Zbr) (1000000:Int))).bind λe=>(gG ((!c.1)||(!e.1)) (Zy d (1:Int) (1000:Int))).bind λf=>cond (((!c.1)||(!e.1))||(!f.1)) (Y (a,K4,())) (cond (La ((K3.wrap (b-(a:Zbr)))<(K3.wrap ((2:Int)*d)))) (xG b (min (K3.wrap ((2:Int)*a.1)) a.2.1,a.2) U7) (xG b a U7))
def gj(b:Zf)(a:Qp)(d:Bool):Oc Int Bool:=(ZW a).bind λe=>cond (!e.1) (Y (a.2.2.1,d,())) ((oZ a (b:ZaT).2.1 (b:Zbu)).bind λc=>Y (c.1.2.2.1,c.2.1,()))
def vh(a:Qq):Oa Bool:=(rc a).bind λb=>Ze (((b.1&&(La (a.1>(0:Int))))=Lb->((2:Int)≠0)))<|some ((b.1&&(La (a.1>(0:Int))))&&(La ((K3.wrap ((K3.wrap ((a:ZaC)+a.1))-a.2.1))>=(K3.wrap (Lg (K3.wrap (a.1+1)) (2:Int))))),())
def mm(a:Qq):Oc Qq Bool:=(vh a).bind λb=>cond ((!b.1)||(La ((K3.wrap ((a:ZaC)+a.1))>1152921504606846976))) (Y (a,K4,())) (Y ((a.1,K3.wrap ((a:ZaC)+a.1),a.2.2),Lb,()))
def vm(a:Qq)(c:Bool):Oc Int Bool:=(vh a).bind λd=>cond (!d.1) (Y (a.2.1,c,())) ((mm a).bind λb=>Y (b.1.2.1,b.2.1,()))
def lv(a:Zz):Oa Bool:=Y ((a.1==0)||(a.1==1),())
def D9(a:Qq):Oa Bool:=(cU a).bind λb=>Y (b.1&&(a.2.2.1==a.1),())
def ey(a:Zh)(b:List Zj):Oa (List Zj):=(D9 (a:LE)).bind λd=>bif(d.1&&(a:Zak))&&(La (((a:ZaF).1.length:Int)>(0:Int)))then let c:List Zj:=[((21:Int),a.1,(0:Int),([]:Ba),K4,(0:Int),(a:LE).1,(0:Int),K4,())];Ze (b.length+c.length<=Qg)<|Y (b++c,()) else Y (b,())
def aJ(e:Zf)(a:Zh)(b:List Zj):Oa (List Zj):=bif((a:Zao)&&((a:Zat)==0))&&(!(a:ZaM))then(gj e (a:Fn) (a:ZaX).1).bind λc=>bif c.2.1 then let d:List Zj:=[((17:Int),a.1,(0:Int),([]:Ba),K4,(0:Int),c.1,(0:Int),K4,())];Ze (b.length+d.length<=Qg)<|ey a (b++d) else ey a b else ey a b
def aI(c:Zf)(a:Zh)(b:List Zj):Oa (List Zj):=(cond (a:ZaS) (lv (a:Fd)) (Y (K4,()))).bind λe=>bif (a:ZaS)&&e.1 then let d:List Zj:=[((5:Int),a.1,(0:Int),([]:Ba),K4,(a:Zaw).1,(0:Int),(0:Int),K4,())];Ze (b.length+d.length<=Qg)<|aJ c a (b++d) else aJ c a b
def j6(b:Zf)(a:Zh):Oa (List Zj):=bif (a:ZaE).1 then let c:List Zj:=[((4:Int),a.1,(0:Int),([]:Ba),K4,(a:ZaV).2.2.2.1,(0:Int),(a:Zba),K4,())];Ze (([]:List Zj).length+c.length<=Qg)<|aI b a (([]:List Zj)++c) else aI b a ([]:List Zj)
def tu(a:Zf)(b:List Zj):Oa (List Zj):=bif (a:Zaq).2.2.1==(a:Zaq).1 then let c:List Zj:=[((22:Int),(0:Int),(0:Int),([]:Ba),K4,(0:Int),(a:Zaq).1,(0:Int),Lb,())];Ze (b.length+c.length<=Qg)<|Y (b++c,()) else Y (b,())
def tq(a:Zf)(b:List Zj):Oa (List Zj):=bif (a:Zar).2.2.1==(a:Zar).1 then let c:List Zj:=[((22:Int),(0:Int),(0:Int),([]:Ba),K4,(0:Int),(a:Zar).1,(0:Int),K4,())];Ze (b.length+c.length<=Qg)<|tu a (b++c) else tu a b
def Qwp(c:Zf)(d:List Zj)(e:List Zh)(a b:Int):Nat:=(a-b).toNat+1
def eN:Nat->Zf->List Zj->List Zh->Int->Int->Oa (List Zj)|0,_,_,_,_,_=>Lc|N+1,a,b,d,e,c=>bif La (c<e)then Ze (0<=c/\c<d.length)<|(j6 a (d.getD c.toNat Zc)).bind λf=>Ze (b.length+f.1.length<=Qg)<|eN N a (b++f.1) d e (K3.wrap (c+1)) else(D9 (a:Zah)).bind λh=>bif h.1 then let g:List Zj:=[((20:Int),(0:Int),(0:Int),([]:Ba),K4,(0:Int),(a:Zah).1,(0:Int),K4,())];Ze (b.length+g.length<=Qg)<|tq a (b++g) else tq a b
def eJ(a:Zf)(b:List Zj):Oa (List Zj):=eN (Qwp a b (a:Id) ((a:Id).length:Int) (0:Int)) a b (a:Id) ((a:Id).length:Int) (0:Int)
def eH(a:Zf)(b:List Zj):Oa (List Zj):=(vm (a:Zav) (a:ZaB).2.1).bind λc=>bif c.2.1 then let d:List Zj:=[((18:Int),(0:Int),(0:Int),([]:Ba),K4,(0:Int),c.1,(0:Int),Lb,())];Ze (b.length+d.length<=Qg)<|eJ a (b++d) else eJ a b
def eG(a:Zf)(b:List Zj):Oa (List Zj):=(vm (a:Zay) (a:ZaB).1).bind λc=>bif c.2.1 then let d:List Zj:=[((18:Int),(0:Int),(0:Int),([]:Ba),K4,(0:Int),c.1,(0:Int),K4,())];Ze (b.length+d.length<=Qg)<|eH a (b++d) else eH a b
def q8(a:Zf):Oa (List Zj):=(Kw a).bind λd=>bif !d.1 then Y (([]:List Zj),()) else(gj a (a:Zai) (a:ZaZ).2.1).bind λb=>bif b.2.1 then let c:List Zj:=[((16:Int),(0:Int),(0:Int),([]:Ba),K4,(0:Int),b.1,(0:Int),K4,())];Ze (([]:List Zj).length+c.length<=Qg)<|eG a (([]:List Zj)++c) else eG a ([]:List Zj)
def Xv(a:Int):Oa Ba:=Y (Xf ([(Le.wrap a)]),())
def KV(a:Int):Oa Int:=(Xk a).bind λb=>cond (!b.1) (Y ((0:Int),())) (cond (La (a<(64:Int))) (Y ((1:Int),())) (cond (La (a<(16384:Int))) (Y ((2:Int),())) (cond (La (a<(1073741824:Int))) (Y ((4:Int),())) (Y ((8:Int),())))))
def bN(a:List Int):Oa Ba:=Y (Xf a,())
def ci(b c:Int)(d:List Int)(a:Int):Nat:=(a-0).toNat+2
def Kb:Nat->Int->Int->List Int->Int->Oa Ba|0,_,_,_,_=>Lc|N+1,d,c,a,b=>cond (La (b>=(0:Int))) (Ze (0<=b/\b<a.length)<|Ze (0<=(8:Int))<|Kb N (d.fdiv (2^ (min (8:Int).toNat K3.bits))) c (a.set b.toNat (Le.wrap d)) (K3.wrap (b-1))) (cond (c==2) (Ze (0<=(0:Int)/\(0:Int)<a.length)<|Ze (0<=(0:Int)/\(0:Int)<a.length)<|bN (a.set (0:Int).toNat (bits .or .u8 (a.getD (0:Int).toNat (0:Int)) (64:Int)))) (cond (c==4) (Ze (0<=(0:Int)/\(0:Int)<a.length)<|Ze (0<=(0:Int)/\(0:Int)<a.length)<|bN (a.set (0:Int).toNat (bits .or .u8 (a.getD (0:Int).toNat (0:Int)) (128:Int)))) (cond (c==8) (Ze (0<=(0:Int)/\(0:Int)<a.length)<|Ze (0<=(0:Int)/\(0:Int)<a.length)<|bN (a.set (0:Int).toNat (bits .or .u8 (a.getD (0:Int).toNat (0:Int)) (192:Int)))) (bN a))))
def Yw(b:Int):Oa Ba:=(KV b).bind λa=>cond (a.1==0) (Y (([]:Ba),())) (Ze (0<=a.1/\a.1<=a.1/\a.1<=Qg)<|Kb (ci b a.1 (Lh a.1.toNat (0:Int)) (K3.wrap (a.1-1))) b a.1 (Lh a.1.toNat (0:Int)) (K3.wrap (a.1-1)))
def nU(c:Ba)(d:List Int)(a b:Int):Nat:=(a-b).toNat+1
def aQ:Nat->Ba->List Int->Int->Int->Oa Ba|0,_,_,_,_=>Lc|N+1,c,b,d,a=>cond (La (a<d)) (gH b a<|(Xk (b.getD a.toNat (0:Int))).bind λf=>cond (!f.1) (Y (([]:Ba),())) ((Yw (b.getD a.toNat (0:Int))).bind λe=>Ze (c.length+e.1.length<=Ym)<|aQ N (c++e.1) b d (K3.wrap (a+1)))) (Y (c,()))
def ax(a:List Int):Oa Ba:=aQ (nU ([]:Ba) a (a.length:Int) (0:Int)) ([]:Ba) a (a.length:Int) (0:Int)
def Wc(a:Zj)(b:Ba):Oa Ba:=(Yw ((a:IO).length:Int)).bind λc=>Ze (b.length+c.1.length<=Ym)<|Ze ((b++c.1).length+(a:IO).length<=Ym)<|some ((b++c.1)++(a:IO),())
def Ki(a:Zj)(h:Unit)(f:Bool):Oa Ba:=cond f (ca 1 ((Xv a.1).bind λb=>(ax ([a.2.1,(a:Zan)])).bind λc=>Ze (b.1.length+c.1.length<=Ym)<|some (b.1++c.1,()))) ((pe (a:ZaA)).bind λg=>(Xv (K3.wrap (a.1+g.1))).bind λd=>(Yw (a:Zan)).bind λe=>Ze (d.1.length+e.1.length<=Ym)<|some (d.1++e.1,()))
def Xo(a:Zj)(f:Unit)(b:Int)(e:Bool):Oa Ba:=cond e ((Xv a.1).bind λc=>(Yw (a:Zan)).bind λd=>Ze (c.1.length+d.1.length<=Ym)<|some (c.1++d.1,())) (cond (b==17) (Ki a () (b==17)) (Ki a () (b==21)))
def fa(a:Zj):Oa Ba:=(Wq a).bind λi=>cond (!i.1) (Y (([]:Ba),())) (cond (a.1==4) (ca 1 ((Xv a.1).bind λd=>(ax ([a.2.1,(a:Zap),(a:Zax)])).bind λe=>Ze (d.1.length+e.1.length<=Ym)<|some (d.1++e.1,()))) (cond (a.1==5) (ca 1 ((Xv a.1).bind λf=>(ax ([a.2.1,(a:Zap)])).bind λg=>Ze (f.1.length+g.1.length<=Ym)<|some (f.1++g.1,()))) (cond (a.1==8) ((pe (a:Zas)).bind λj=>(pe ((a:LT) !=0)).bind λk=>(Xv (K3.wrap ((K3.wrap ((10:Int)+j.1))+(K3.wrap ((4:Int)*k.1))))).bind λb=>(Yw a.2.1).bind λc=>Ze (b.1.length+c.1.length<=Ym)<|cond ((a:LT) !=0) ((Yw (a:LT)).bind λh=>Ze ((b.1++c.1).length+h.1.length<=Ym)<|Wc a ((b.1++c.1)++h.1)) (Wc a (b.1++c.1))) (cond (a.1==16) (Xo a () a.1 (a.1==16)) (Xo a () a.1 (a.1==20))))))
def oT(a:Zj):Oa Int:=(fa a).bind λb=>Y ((b.1.length:Int),())
def uw(a:Qq):Oa Qq:=(cU a).bind λb=>cond (b.1&&(a.2.2.1 !=(-1:Int))) (Y ((a.1,a.2.1,(-1:Int),a.2.2.1,a.2.2.2.2),())) (Y (a,()))
def oz(f:Zf)(d:Zj)(p a:Zf)(b:Int):Oa Zf:=(ck f).bind λg=>(gG (!g.1) (Vj d)).bind λh=>bif(!g.1)||(h.1&&(La (b<(0:Int))))then Y (a,()) else bif d.1==16 then(oZ (f:Zai) (f:ZaT).2.1 (f:Zbu)).bind λi=>Y ((tX a i.1 K4),()) else bif d.1==18 then bif (d:ZaA) then(mm (f:Zav)).bind λj=>Y ((tS a j.1 K4),()) else(mm (f:Zay)).bind λk=>Y ((tV a k.1 K4),()) else bif d.1==20 then(uw (f:Zah)).bind λl=>Y ((tH a l.1),()) else bif d.1==22 then(Kp a (d:ZaA)).bind λc=>bif c.1 then Y ((tM c.2.1 (tP (c:Zbc).1 (-1:Int))),()) else Y ((tG c.2.1 (tP (c:ZaP).2.2.1 (-1:Int))),()) else(Vj d).bind λm=>bif m.1 then gH (a:Id) b<|bif d.1==4 then Y ((tD a ((a:Id).set b.toNat (tC (gJ (a:Id) b) K4))),()) else bif d.1==5 then Y ((tD a ((a:Id).set b.toNat (tB (gJ (a:Id) b) K4))),()) else bif d.1==17 then(oZ (gJ (a:Id) b:Fn) (a:ZaT).2.1 (a:Zbu)).bind λn=>let e:List Zh:=(a:Id).set b.toNat (tH (gJ (a:Id) b) n.1);Y ((tD a (e.set b.toNat (tE (gJ e b) K4))),()) else bif d.1==21 then(uw (gJ (a:Id) b:LE)).bind λo=>Y ((tD a ((a:Id).set b.toNat (tP (gJ (a:Id) b) o.1))),()) else Y (a,()) else Y (a,())
def w5(a:Zf)(b:Zj):Oa Zf:=jj ((Zu a).bind λc=>ca 1 ((Z5 (a:Id) b.2.1).bind λd=>oz a b Xl c.1 d.1)) ((Zu a).bind λc=>(Z5 (a:Id) b.2.1).bind λd=>oz a b Xl c.1 d.1)
def bE(c:List Int)(d a b:Int):Nat:=(a-b).toNat+1
def cv:Nat->List Int->Int->Int->Int->Oa Int|0,_,_,_,_=>Lc|N+1,b,c,d,a=>cond (La (a<d)) (gH b a<|cond (c==(b.getD a.toNat (0:Int))) (Y (a,())) (cv N b c d (K3.wrap (a+1)))) (Y ((-1:Int),()))
def v9(a:List Int)(b:Int):Oa Int:=cv (bE a b (a.length:Int) (0:Int)) a b (a.length:Int) (0:Int)
def iQ(a:List Int)(b:Int):Oa Bool:=(v9 a b).bind λc=>Y (La (c.1>=(0:Int)),())
def vn(c:List Int)(d:List Zp)(e:List Zh)(a b:Int):Nat:=(a-b).toNat+1
def mr:Nat->List Int->List Zp->List Zh->Int->Int->Oa (List Zp)|0,_,_,_,_,_=>Lc|N+1,d,c,b,e,a=>bif La (a<e)then gH b a<|(cond (gJ b a:Zak) (Zy (gJ b a).2.1.1 (0:Int) (2:Int)) (Y (K4,()))).bind λh=>let f:Bool:=((gJ b a:Zak)&&h.1)&&((La (((gJ b a:ZaF).1.length:Int)>(0:Int)))||((gJ b a:ZaV).2.1==1));(cond f (iQ d (gJ b a).1) (Y (K4,()))).bind λi=>bif f&&(!i.1)then let g:List Zp:=[((gJ b a).1,(gJ b a:Zaz),())];Ze (c.length+g.length<=Qg)<|mr N d (c++g) b e (K3.wrap (a+1)) else mr N d c b e (K3.wrap (a+1)) else Y (c,())
def OY(a:Zf)(b:List Int):Oa (List Zp):=mr (vn b ([]:List Zp) (a:Id) ((a:Id).length:Int) (0:Int)) b ([]:List Zp) (a:Id) ((a:Id).length:Int) (0:Int)
def da(c d:List Zp)(a b:Int):Nat:=(a-b).toNat+1
def bd:Nat->List Zp->List Zp->Int->Int->Oa Bool|0,_,_,_,_=>Lc|N+1,c,b,e,a=>cond (La (a<e)) (gH b a<|(Xk (gM b a).1).bind λd=>(gG (!d.1) (mj (gM b a).2.1)).bind λf=>Ze ((((!d.1)||(!f.1))=K4->((La (a>(0:Int)))=Lb->(0<=(K3.wrap (a-1))/\(K3.wrap (a-1))<c.length))))<|cond (((!d.1)||(!f.1))||((La (a>(0:Int)))&&(La ((c.getD (K3.wrap (a-1)).toNat Qo).1>=(gM b a).1)))) (Y (K4,())) (bd N c b e (K3.wrap (a+1)))) (Y (Lb,()))
def k9(a:List Zp):Oa Bool:=bd (da a a (a.length:Int) (0:Int)) a a (a.length:Int) (0:Int)
def oB(c:Int)(d e:List Zp)(a b:Int):Nat:=(a-b).toNat+1
def gy:Nat->Int->List Zp->List Zp->Int->Int->Oa (List Zp)|0,_,_,_,_,_=>Lc|N+1,d,c,b,e,a=>cond (La (a<e)) (Ze (0<=a/\a<b.length)<|cond ((b.getD a.toNat Qo).2.1.1==d) (Ze (c.length+([(b.getD a.toNat Qo)]).length<=Qg)<|gy N d (c++([(b.getD a.toNat Qo)])) b e (K3.wrap (a+1))) (gy N d c b e (K3.wrap (a+1)))) (Y (c,()))
def oA(c:List Zp)(d:Int)(e f:List Zp)(a b:Int):Nat:=(a-b).toNat+1
def ph:Nat->List Zp->Int->List Zp->List Zp->Int->Int->Oa (List Zp)|0,_,_,_,_,_,_=>Lc|N+1,a,c,d,e,f,b=>cond (La (b<f)) (gH e b<|ph N a (min c (gM e b).2.1.1) d e f (K3.wrap (b+1))) (gy (oB c d a (a.length:Int) (0:Int)) c d a (a.length:Int) (0:Int))
def sY(a:List Zp):Oa (List Zp):=ph (oA a (7:Int) ([]:List Zp) a (a.length:Int) (0:Int)) a (7:Int) ([]:List Zp) a (a.length:Int) (0:Int)
def j8(c:List Zp)(d:Int)(e:List Zp)(a b:Int):Nat:=(a-b).toNat+1
def iH:Nat->List Zp->Int->List Zp->Int->Int->Oa Int|0,_,_,_,_,_=>Lc|N+1,c,d,b,e,a=>cond (La (a<e)) (gH b a<|cond (La ((gM b a).1>d)) (Y ((gM b a).1,())) (iH N c d b e (K3.wrap (a+1)))) (Ze (0<=(0:Int)/\(0:Int)<c.length)<|some ((c.getD (0:Int).toNat Qo).1,()))
def ZY(a:List Zp)(b:Int):Oa Int:=(gG ((a.length:Int)==(0:Int)) (k9 a)).bind λc=>cond (((a.length:Int)==(0:Int))||(!c.1)) (Y ((-1:Int),())) (iH (j8 a b a (a.length:Int) (0:Int)) a b a (a.length:Int) (0:Int))
def iG(c:Int)(d:List Zp)(a b:Int):Nat:=(a-b).toNat+1
def fd:Nat->Int->List Zp->Int->Int->Oa Int|0,_,_,_,_=>Lc|N+1,c,b,d,a=>cond (La (a<d)) (Ze (0<=a/\a<b.length)<|cond (!(b.getD a.toNat Qo).2.1.2.1) (Y ((b.getD a.toNat Qo).1,())) (fd N c b d (K3.wrap (a+1)))) ((ZY b c).bind λe=>Y (e.1,()))
def yM(a:List Zp)(c:Int):Oa Int:=(gG ((a.length:Int)==(0:Int)) (k9 a)).bind λd=>cond (((a.length:Int)==(0:Int))||(!d.1)) (Y ((-1:Int),())) ((sY a).bind λb=>fd (iG c b.1 (b.1.length:Int) (0:Int)) c b.1 (b.1.length:Int) (0:Int))
def VU(a:Qq):Oa Int:=(cU a).bind λb=>cond (!b.1) (Y ((0:Int),())) (Y (K3.wrap (a.1-a.2.1),()))
def bh(a:Zn):Oa Bool:=(nW a).bind λb=>(cond b.1 (Zy a.1 (0:Int) (2:Int)) (Y (K4,()))).bind λc=>Y (b.1&&c.1,())
def tz(c:Int)(d:Q9)(e:List Int)(a b:Int):Nat:=(a-b).toNat+1
def oY:Nat->Int->Q9->List Int->Int->Int->Oc Ba Bool|0,_,_,_,_,_=>Lc|N+1,e,a,b,f,c=>bif La (c<f)then Ze (a.1≠0)<|let d:Int:=Ld (K3.wrap (e+c)) a.1;gH (a:SW) d<|let g:List Int:=[(Le.wrap ((a:SW).getD d.toNat (0:Int)))];Ze (b.length+g.length<=Qg)<|oY N e a (b++g) f (K3.wrap (c+1)) else Y (Xf b,Lb,())
def s5(a:Q9)(b c:Int):Oc Ba Bool:=(qu a).bind λe=>let d:Bool:=(!e.1)||(La (c<(0:Int)));(cond d (Y (K4,())) (Zy b a.2.1 (a:Zab))).bind λf=>bif(d||(!f.1))||(La (c>(K3.wrap ((a:Zab)-b))))then Y (([]:Ba),K4,()) else oY (tz b a ([]:List Int) c (0:Int)) b a ([]:List Int) c (0:Int)
def mY(a:Zn)(e:Qj)(b:Zi)(c:Int):Oc Qj Bool:=cond (La (c<=(0:Int))) (Y (iu,K4,())) ((s5 a.2.1 b.1 c).bind λd=>Y ((b.1,d.1,((a:Zaf)==1)&&((K3.wrap (b.1+c))==(a:Zam)),()),Lb,()))
def ZX(a:Zn)(d b:Int):Oc Qj Bool:=(bh a).bind λe=>bif !e.1 then Y (iu,K4,()) else bif((a:ST).length:Int)==(0:Int)then(pe ((a:Zaf)==1)).bind λf=>Y ((K3.wrap ((max (a:Zam) (0:Int))*f.1),([]:Ba),(a:Zaf)==1,()),(a:Zaf)==1,()) else Ze (0<=(0:Int)/\(0:Int)<(a:ST).length)<|let c:Int:=min (K3.wrap (((a:ST).getD (0:Int).toNat Z3).2.1- ((a:ST).getD (0:Int).toNat Z3).1)) d;bif La (b<=((a:ST).getD (0:Int).toNat Z3).1)then Y (iu,K4,()) else bif La (b<(K3.wrap (((a:ST).getD (0:Int).toNat Z3).1+c)))then mY a iu ((a:ST).getD (0:Int).toNat Z3) (K3.wrap (b- ((a:ST).getD (0:Int).toNat Z3).1)) else mY a iu ((a:ST).getD (0:Int).toNat Z3) c
def ml(b:Int)(a:Qj):Oa Zj:=Y (((8:Int),b,a.1,a.2.1,a.2.2.1,(0:Int),(0:Int),(0:Int),K4,()),())
def ua(b c:Int)(d:Qj)(e:Zh)(f a:Int):Nat:=(a-1).toNat+2
def kt:Nat->Int->Int->Qj->Zh->Int->Int->Oc Qj Bool|0,_,_,_,_,_,_=>Lc|N+1,c,d,g,e,f,b=>cond (La (b>=(1:Int))) ((ZX e.2.1 b f).bind λa=>(cond a.2.1 (ml c a.1) (Y (Z9,()))).bind λh=>(cond a.2.1 (oT h.1) (Y ((0:Int),()))).bind λi=>(cond a.2.1 (Zy i.1 (1:Int) d) (Y (K4,()))).bind λj=>cond (a.2.1&&j.1) (Y (a.1,Lb,())) (kt N c d g e f (K3.wrap (b-1)))) (Y (iu,K4,()))
def KU(a:Zf)(d c:Int):Oc Qj Bool:=(Z5 (a:Id) d).bind λb=>(ck a).bind λg=>let e:Bool:=(!g.1)||(La (b.1<(0:Int)));Ze ((e=K4->(0<=b.1/\b.1<(a:Id).length)))<|bif(e||(!(gJ (a:Id) b.1:Zak)))||(La (c<(3:Int)))then Y (iu,K4,()) else gH (a:Id) b.1<|(VU (a:Zah)).bind λh=>let f:Int:=min (gJ (a:Id) b.1:LE).1 (K3.wrap ((gJ (a:Id) b.1:Zba)+h.1));kt (ua d c iu (gJ (a:Id) b.1) f (min (60:Int) c)) d c iu (gJ (a:Id) b.1) f (min (60:Int) c)
def w8(a:Qq):Oa Qq:=(cU a).bind λb=>cond (((b.1&&(a.2.1==a.1))&&(a.2.2.1==(-1:Int)))&&((a:ZaC) !=a.1)) (Y ((tP a a.1),())) (Y (a,()))
def s6(b:Zn)(a:Qj):Oa Bool:=cond (((La (a.1<(0:Int)))||(La (a.1>(b:Zad))))||(La ((a.2.1.length:Int)>(K3.wrap ((b:Zad)-a.1))))) (Y (K4,())) (Y ((!a.2.2.1)||((K3.wrap (a.1+(a.2.1.length:Int)))==(b:Zam)),()))
def mc(c d:List Zi)(e:Zi)(f:List Zi)(g h:Int)(i:List Zi)(a b:Int):Nat:=(a-b).toNat+1
def W4(K1:(List Zi×List Zi×List Zi×Int×Int×Unit)->Oa (List Zi)):Nat->List Zi->List Zi->Zi->List Zi->Int->Int->List Zi->Int->Int->Oa (List Zi)|0,_,_,_,_,_,_,_,_,_=>Lc|N+1,e,c,d,f,g,h,b,i,a=>bif La (a<i)then gH b a<|let j:Int:=max d.1 (gK b a).1;let k:Int:=min d.2.1 (gK b a).2.1;bif La (j<k)then Ze (c.length+([(j,k,())]).length<=Qg)<|W4 K1 N e (c++([(j,k,())])) d f g h b i (K3.wrap (a+1)) else W4 K1 N e c d f g h b i (K3.wrap (a+1)) else K1 (e,c,f,g,K3.wrap (h+1),())
def eu(c d e:List Zi)(a b:Int):Nat:=(a-b).toNat+1
def ce:Nat->List Zi->List Zi->List Zi->Int->Int->Oa (List Zi)|0,_,_,_,_,_=>Lc|N+1,b,d,c,e,a=>cond (La (a<e)) (Ze (0<=a/\a<c.length)<|W4 (λv=>ce N v.1 v.2.1 v.2.2.1 v.2.2.2.1 v.2.2.2.2.1) (mc b d (c.getD a.toNat Z3) c e a b (b.length:Int) (0:Int)) b d (c.getD a.toNat Z3) c e a b (b.length:Int) (0:Int)) (Y (d,()))
def iC(a b:List Zi):Oa (List Zi):=(al a).bind λc=>(gG (!c.1) (al b)).bind λd=>cond ((!c.1)||(!d.1)) (Y (([]:List Zi),())) (ce (eu b ([]:List Zi) a (a.length:Int) (0:Int)) b ([]:List Zi) a (a.length:Int) (0:Int))
def Vn(c d:List Zi)(a b:Int):Nat:=(a-b).toNat+1
def Jm:Nat->List Zi->List Zi->Int->Int->Oa Bool|0,_,_,_,_=>Lc|N+1,b,c,d,a=>cond (La (a<d)) (gH b a<|gH c a<|cond (!(TR Zw (gK b a) (gK c a))) (Y (K4,())) (Jm N b c d (K3.wrap (a+1)))) (Y (Lb,()))
def bS(a b:List Zi):Oa Bool:=cond ((a.length:Int) !=(b.length:Int)) (Y (K4,())) (Jm (Vn a b (a.length:Int) (0:Int)) a b (a.length:Int) (0:Int))
def wu(a b:List Zi):Oa Bool:=(bS a b).bind λc=>Y (c.1,())
def jn(K1:(Zi×List Zi×List Zi×Int×Int×Unit)->Oa (List Zi))(a:Zi)(c:List Zi)(b:Zi)(d:List Zi)(e f:Int):Oa (List Zi):=bif La ((max b.1 a.2.1)<b.2.1)then let g:List Zi:=[(max b.1 a.2.1,b.2.1,())];Ze (c.length+g.length<=Qg)<|K1 (a,c++g,d,e,K3.wrap (f+1),()) else K1 (a,c,d,e,K3.wrap (f+1),())
def fT(c:Zi)(d e:List Zi)(a b:Int):Nat:=(a-b).toNat+1
def Wd:Nat->Zi->List Zi->List Zi->Int->Int->Oa (List Zi)|0,_,_,_,_,_=>Lc|N+1,c,d,b,e,a=>bif La (a<e)then Ze (0<=a/\a<b.length)<|bif La ((b.getD a.toNat Z3).1<(min (b.getD a.toNat Z3).2.1 c.1))then let f:List Zi:=[((b.getD a.toNat Z3).1,min (b.getD a.toNat Z3).2.1 c.1,())];Ze (d.length+f.length<=Qg)<|jn (λv=>Wd N v.1 v.2.1 v.2.2.1 v.2.2.2.1 v.2.2.2.2.1) c (d++f) (b.getD a.toNat Z3) b e a else jn (λv=>Wd N v.1 v.2.1 v.2.2.1 v.2.2.2.1 v.2.2.2.2.1) c d (b.getD a.toNat Z3) b e a else Y (d,())
def ku(a:List Zi)(b:Zi):Oa (List Zi):=(al a).bind λc=>(gG (!c.1) (QK b)).bind λd=>cond ((!c.1)||(!d.1)) ((am a).bind λe=>Y (e.1,())) (Wd (fT b ([]:List Zi) a (a.length:Int) (0:Int)) b ([]:List Zi) a (a.length:Int) (0:Int))
def uB(c a:Zn):Oc Zn Bool:=(lq a).bind λb=>Y ((b.1,a.2),Lb,())
def m8(c:Qj)(b a:Zn):Oc Zn Bool:=cond c.2.2.1 (uB b (tG a (2:Int))) (uB b a)
def QC(b:Zn)(d:Qj)(e a:Zn)(c:Zi)(f:Bool):Oc Zn Bool:=cond f (Y (a,K4,())) ((ku (b:ST) c).bind λg=>(fS (b:Zae) c).bind λh=>m8 d e (a.1,a.2.1,g.1,h.1,(a:Zag),(a:Zam),(a:Zaf),max (b:Zal) c.2.1,(a:Zby).2.2))
def QB(b:Zn)(a:Qj):Oc Zn Bool:=(Vy b).bind λc=>(bh b).bind λe=>(gG (!e.1) (s6 b a)).bind λf=>bif(((!e.1)||(!f.1))||(a.2.2.1&&((b:Zaf) !=1)))||((a.2.1==([]:Ba))&&(!a.2.2.1))then Y (c.1,K4,()) else bif !(a.2.1==([]:Ba))then let d:Int:=K3.wrap (a.1+(a.2.1.length:Int));(λm=>jj (jj m m) m) ((iC (b:ST) ([(a.1,d,())])).bind λg=>(wu g.1 ([(a.1,d,())])).bind λh=>QC b a Jn c.1 (a.1,d,()) (!h.1) ) else m8 a Jn c.1
def vj(a:Qq)(b:Int):Oc Qq Bool:=(cU a).bind λc=>(gG (!c.1) (Zy b (0:Int) (K3.wrap (a.1-a.2.1)))).bind λd=>cond ((!c.1)||(!d.1)) (Y (a,K4,())) (Y ((tT a (K3.wrap (a.2.1+b))),Lb,()))
def ZV(i:Int)(d l a:Zf)(b:Int)(e:Zn)(j:Bool):Oc Zf Bool:=let f:Int:=K3.wrap ((e:Zal)- (gJ (a:Id) b:Zba));(vj (gJ (a:Id) b:LE) f).bind λg=>(vj (d:Zah) f).bind λh=>bif((!j)||(!g.2.1))||(!h.2.1)then(Zu d).bind λk=>Y (k.1,K4,()) else let c:List Zh:=(a:Id).set b.toNat (tT (gJ (a:Id) b) e);Y ((tQ a (c.set b.toNat (tP (gJ c b) g.1)) h.1 i),Lb,())
def uz(f:Int)(b:Zf)(g:Qj)(h c:Zf)(a:Int):Oc Zf Bool:=(ck b).bind λi=>let d:Bool:=(!i.1)||(La (a<(0:Int)));Ze ((d=K4->(0<=a/\a<(b:Id).length)))<|bif d||(!(gJ (b:Id) a:Zak))then Y (c,K4,()) else gH (c:Id) a<|ca 1 ((QB (gJ (c:Id) a).2.1 g).bind λe=>ZV f b h c a e.1 e.2.1 )
def ZU(a:Zf)(b:Int)(e:Qj):Oc Zf Bool:=jj ((Zu a).bind λc=>ca 1 ((Z5 (a:Id) b).bind λd=>uz b a e Xl c.1 d.1)) ((Zu a).bind λc=>(Z5 (a:Id) b).bind λd=>uz b a e Xl c.1 d.1)
def li(c:Ba)(d:List Zj)(a b:Int):Nat:=(a-b).toNat+1
def eO:Nat->Ba->List Zj->Int->Int->Oa Ba|0,_,_,_,_=>Lc|N+1,b,c,e,a=>cond (La (a<e)) (Ze (0<=a/\a<c.length)<|(Wq (c.getD a.toNat Z9)).bind λf=>cond (!f.1) (Y (([]:Ba),())) ((fa (c.getD a.toNat Z9)).bind λd=>Ze (b.length+d.1.length<=Ym)<|cond (La (((b++d.1).length:Int)>(400:Int))) (Y (([]:Ba),())) (eO N (b++d.1) c e (K3.wrap (a+1))))) (Y (b,()))
def zn(a:List Zj):Oa Ba:=eO (li ([]:Ba) a (a.length:Int) (0:Int)) ([]:Ba) a (a.length:Int) (0:Int)
def bM(d a:Zf)(b:List Zj):Od Ba Int Zf:=cond ((b.length:Int)==(0:Int)) (Y (([]:Ba),(-1:Int),a,())) (Ze ((a:Zac).length+1<=Qg)<|(zn (((a:Zac)++[((a:ZaI),b,())]).getD ((a:Zac).length:Int).toNat Xq).2.1).bind λc=>Y (c.1,K3.wrap ((K3.wrap ((a:ZaI)+1))-1),(a.1,a.2.1,a.2.2.1,(a:Id),(a:Zah),(a:Zai),(a:Zar),(a:Zaq),(a:Zay),(a:Zav),(a:ZaZ).2.1,(a:ZaB).1,(a:ZaB).2.1,(a:ZaN).1,K3.wrap ((a:ZaI)+1),(a:Zac)++[((a:ZaI),b,())],(a:ZaT).2),()))
def iE(c d:Zf)(a:List Zj)(e:List Int)(f b:Int):Nat:=((200:Int)-b).toNat+1+0*a.length
def W5:Nat->Zf->Zf->List Zj->List Int->Int->Int->Od Ba Int Zf|0,_,_,_,_,_,_=>Lc|N+1,e,a,d,f,h,i=>cond (La (i<(200:Int))) ((OY a f).bind λl=>(yM l.1 (a:ZaN).1).bind λb=>cond (La (b.1<(0:Int))) (bM e a d) ((KU a b.1 h).bind λg=>cond (!g.2.1) ((Z5 (a:Id) b.1).bind λc=>gH (a:Id) c.1<|(w8 (gJ (a:Id) c.1:LE)).bind λm=>(w8 (a:Zah)).bind λn=>Ze (f.length+([b.1]).length<=Qg)<|W5 N e (a.1,a.2.1,a.2.2.1,(a:Id).set c.1.toNat (tP (gJ (a:Id) c.1) m.1),n.1,(a:Zbv)) d (f++([b.1])) h (K3.wrap (i+1))) ((ZU a b.1 g.1).bind λj=>cond (!j.2.1) (bM e a d) ((ml b.1 g.1).bind λk=>Ze (d.length+([k.1]).length<=Qg)<|(ml b.1 g.1).bind λo=>(oT o.1).bind λp=>W5 N e j.1 (d++([k.1])) f (K3.wrap (h-p.1)) (K3.wrap (i+1)))))) (bM e a d)
def iD(c d:Zf)(e:List Zj)(f:List Int)(g:Int)(h:List Zj)(a b:Int):Nat:=(a-b).toNat+1
def Vi:Nat->Zf->Zf->List Zj->List Int->Int->List Zj->Int->Int->Od Ba Int Zf|0,_,_,_,_,_,_,_,_=>Lc|N+1,e,f,c,g,d,b,h,a=>cond (La (a<h)) (Ze (0<=a/\a<b.length)<|(oT (b.getD a.toNat Z9)).bind λi=>cond (La (i.1<=d)) (Ze (c.length+([(b.getD a.toNat Z9)]).length<=Qg)<|(w5 f (b.getD a.toNat Z9)).bind λj=>Vi N e j.1 (c++([(b.getD a.toNat Z9)])) g (K3.wrap (d-i.1)) b h (K3.wrap (a+1))) (Vi N e f c g d b h (K3.wrap (a+1)))) (W5 (iE e f c g d (0:Int)) e f c g d (0:Int))
def yF(a:Zf)(c:Int):Od Ba Int Zf:=(Zu a).bind λd=>(Kw a).bind λe=>(gG (!e.1) (Zy c (1:Int) (400:Int))).bind λf=>cond (((!e.1)||(!f.1))||((a:ZaI)==1000000)) (Y (([]:Ba),(-1:Int),d.1,())) ((q8 a).bind λb=>Vi (iD Xl d.1 ([]:List Zj) ([]:List Int) c b.1 (b.1.length:Int) (0:Int)) Xl d.1 ([]:List Zj) ([]:List Int) c b.1 (b.1.length:Int) (0:Int))
def Zuf(c:Ba)(d a e b:Int):Nat:=(a-b).toNat+1
def lh:Nat->Ba->Int->Int->Int->Int->Od Int Int Bool|0,_,_,_,_,_=>Lc|N+1,c,a,d,e,b=>cond (La (b<d)) (Ze (0<=(8:Int))<|Ze (0<=(K3.wrap (a+b))/\(K3.wrap (a+b))<c.length)<|lh N c a d (bits .or .i64 (K3.wrap (e*2^ (min (8:Int).toNat K3.bits))) (K3.wrap ((c.getD (K3.wrap (a+b)).toNat 0).toNat:Int))) (K3.wrap (b+1))) (Y (e,K3.wrap (a+d),Lb,()))
def Yg(b:Ba)(a:Int):Od Int Int Bool:=(Zy a (0:Int) (K3.wrap ((b.length:Int)- (1:Int)))).bind λf=>bif !f.1 then Y ((0:Int),(0:Int),K4,()) else gH b a<|Ze (0<=(6:Int))<|let d:Int:=((b.getD a.toNat 0).toNat:Int).fdiv (2^ (min (6:Int).toNat Le.bits));Ze (0<=d)<|let c:Int:=K3.wrap ((1:Int)*2^ (min d.toNat K3.bits));bif La ((K3.wrap ((b.length:Int)-a))<c)then Y ((0:Int),(0:Int),K4,()) else gH b a<|let e:Int:=K3.wrap (bits .and .u8 ((b.getD a.toNat 0).toNat:Int) (63:Int));lh (Zuf b a c e (1:Int)) b a c e (1:Int)
def bQ(d:Ba)(a:Int)(f c:Zj)(b:Int)(e:Bool):Od Zj Int Bool:=cond ((!e)||(La (b>(K3.wrap ((d.length:Int)-a))))) (Y (Z9,(0:Int),K4,())) (Ze (0<=a/\a<=(K3.wrap (a+b))/\(K3.wrap (a+b))<=d.length)<|some ((tD c ((d.drop a.toNat).take ((K3.wrap (a+b)).toNat-a.toNat))),K3.wrap (a+b),Lb,()))
def Vm(a:Ba)(b h:Int)(c d:Zj)(i:Int)(f:Bool):Od Zj Int Bool:=bif !f then Y (Z9,(0:Int),K4,()) else let g:Int:=K3.wrap ((a.length:Int)-b);bif(bits .and .i64 h (2:Int))==2 then(Yg a b).bind λe=>bif !e.2.2.1 then bQ a (0:Int) c d g K4 else bQ a e.2.1 c d e.1 Lb else bQ a b c d g f
def rS(b:Ba)(f a:Int):Od Zj Int Bool:=(Yg b f).bind λc=>cond (!c.2.2.1) (cond (K4&&((bits .and .i64 a (4:Int))==4)) ((Yg b (0:Int)).bind λd=>cond (!d.2.2.1) (Vm b (0:Int) a Z9 ((8:Int),(0:Int),(0:Int),([]:Ba),(bits .and .i64 a (1:Int))==1,(0:Int),(0:Int),(0:Int),K4,()) (0:Int) K4) (Vm b d.2.1 a Z9 ((8:Int),(0:Int),d.1,([]:Ba),(bits .and .i64 a (1:Int))==1,(0:Int),(0:Int),(0:Int),K4,()) (0:Int) Lb)) (Vm b (0:Int) a Z9 ((8:Int),(0:Int),(0:Int),([]:Ba),(bits .and .i64 a (1:Int))==1,(0:Int),(0:Int),(0:Int),K4,()) (0:Int) K4)) (cond (Lb&&((bits .and .i64 a (4:Int))==4)) ((Yg b c.2.1).bind λe=>cond (!e.2.2.1) (Vm b (0:Int) a Z9 ((8:Int),c.1,(0:Int),([]:Ba),(bits .and .i64 a (1:Int))==1,(0:Int),(0:Int),(0:Int),K4,()) (0:Int) K4) (Vm b e.2.1 a Z9 ((8:Int),c.1,e.1,([]:Ba),(bits .and .i64 a (1:Int))==1,(0:Int),(0:Int),(0:Int),K4,()) (0:Int) Lb)) (Vm b c.2.1 a Z9 ((8:Int),c.1,(0:Int),([]:Ba),(bits .and .i64 a (1:Int))==1,(0:Int),(0:Int),(0:Int),K4,()) (0:Int) Lb))
def Xg(d a:Zj)(b:Int)(c:Bool):Od Zj Int Bool:=Y (a,b,c,())
def de(g:Ba)(h:Int)(d:Zj)(c:Int)(a:Zj)(i:Int)(j k:Bool):Od Zj Int Bool:=bif k then Ze ((2:Int)≠0)<|(pe ((Ld c (2:Int))==1)).bind λl=>let b:Zj:=(K3.wrap (a.1-l.1),a.2.1,(a:LT),(a:IO),(a:Zas),(a:Zap),(a:Zan),(a:Zax),(Ld c (2:Int))==1,(a:Zbb).2.2.2);(Yg g (K3.wrap (h+1))).bind λe=>bif !e.2.2.1 then Xg d b (0:Int) K4 else Xg d (tG b e.1) e.2.1 Lb else(Zy c (8:Int) (15:Int)).bind λm=>bif m.1 then(rS g (K3.wrap (h+1)) c).bind λf=>Y (f.1,f.2.1,f.2.2.1,()) else Xg d a i j
def nf(d:Ba)(e:Int)(b:Zj)(f:Int)(a:Zj)(g:Int)(h:Bool)(c:Int)(k:Bool):Od Zj Int Bool:=cond k ((Yg d (K3.wrap (e+1))).bind λi=>cond (!i.2.2.1) (Xg b a (0:Int) K4) ((Yg d i.2.1).bind λj=>cond (!j.2.2.1) (Xg b (a.1,i.1,a.2.2) (0:Int) K4) (Xg b (a.1,i.1,(a:LT),(a:IO),(a:Zas),(a:Zap),j.1,(a:Zbb).2) j.2.1 Lb))) (cond (c==18) (de d e b f a g h (c==18)) (cond (c==19) (de d e b f a g h (c==19)) (cond (c==22) (de d e b f a g h (c==22)) (de d e b f a g h (c==23)))))
def nc(d:Ba)(e:Int)(c:Zj)(g:Int)(a:Zj)(h:Int)(i:Bool)(b:Int)(j:Bool):Od Zj Int Bool:=cond j ((Yg d (K3.wrap (e+1))).bind λf=>cond (!f.2.2.1) (Xg c a (0:Int) K4) (Xg c (tG a f.1) f.2.1 Lb)) (cond (b==17) (nf d e c g a h i b (b==17)) (nf d e c g a h i b (b==21)))
def I9(b:Ba)(c:Int):Od Zj Int Bool:=(Zy c (0:Int) (K3.wrap ((b.length:Int)- (1:Int)))).bind λi=>bif !i.1 then Y (Z9,(0:Int),K4,()) else gH b c<|let a:Int:=K3.wrap ((b.getD c.toNat 0).toNat:Int);bif a==4 then(Yg b (K3.wrap (c+1))).bind λd=>bif !d.2.2.1 then Xg Z9 (a,(0:Int),(0:Int),([]:Ba),K4,(0:Int),(0:Int),(0:Int),K4,()) (0:Int) K4 else(Yg b d.2.1).bind λe=>bif !e.2.2.1 then Xg Z9 (a,d.1,(0:Int),([]:Ba),K4,(0:Int),(0:Int),(0:Int),K4,()) (0:Int) K4 else(Yg b e.2.1).bind λg=>bif !g.2.2.1 then Xg Z9 (a,d.1,(0:Int),([]:Ba),K4,e.1,(0:Int),(0:Int),K4,()) (0:Int) K4 else Xg Z9 (a,d.1,(0:Int),([]:Ba),K4,e.1,(0:Int),g.1,K4,()) g.2.1 Lb else bif a==5 then(Yg b (K3.wrap (c+1))).bind λf=>bif !f.2.2.1 then Xg Z9 (a,(0:Int),(0:Int),([]:Ba),K4,(0:Int),(0:Int),(0:Int),K4,()) (0:Int) K4 else(Yg b f.2.1).bind λh=>bif !h.2.2.1 then Xg Z9 (a,f.1,(0:Int),([]:Ba),K4,(0:Int),(0:Int),(0:Int),K4,()) (0:Int) K4 else Xg Z9 (a,f.1,(0:Int),([]:Ba),K4,h.1,(0:Int),(0:Int),K4,()) h.2.1 Lb else bif a==16 then nc b c Z9 a (a,(0:Int),(0:Int),([]:Ba),K4,(0:Int),(0:Int),(0:Int),K4,()) (0:Int) K4 a (a==16) else nc b c Z9 a (a,(0:Int),(0:Int),([]:Ba),K4,(0:Int),(0:Int),(0:Int),K4,()) (0:Int) K4 a (a==20)
def wt(b:Ba)(c:Int):Od Zj Int Bool:=(I9 b c).bind λa=>(gG (!a.2.2.1) (Wq a.1)).bind λd=>cond ((!a.2.2.1)||(!d.1)) (Y (Z9,(0:Int),K4,())) (Y (a.1,a.2.1,Lb,()))
def nOp(a:Ba)(c:List Zj)(b:Int):Nat:=((a.length:Int)-b).toNat+1
def bf:Nat->Ba->List Zj->Int->Oc (List Zj) Bool|0,_,_,_=>Lc|N+1,a,c,b=>cond (La (b<(a.length:Int))) (gH a b<|cond (((a.getD b.toNat 0).toNat:Int)==(0:Int)) (bf N a c (K3.wrap (b+1))) ((wt a b).bind λd=>cond (!d.2.2.1) (Y (([]:List Zj),K4,())) (Ze (c.length+([d.1]).length<=Qg)<|bf N a (c++([d.1])) d.2.1))) ((Zy (a.length:Int) (1:Int) (400:Int)).bind λe=>Y (c,e.1,()))
def zm(a:Ba):Oc (List Zj) Bool:=bf (nOp a ([]:List Zj) (0:Int)) a ([]:List Zj) (0:Int)
def uW(b:Zf)(c:Int):Oa Zf:=(Zu b).bind λa=>(cond ((b:ZaG)==0) (Zy c (1:Int) (255:Int)) (Y (K4,()))).bind λd=>cond (((b:ZaG)==0)&&d.1) (Y ((tK a.1 c),())) (Y (a.1,()))
def j7(a:Int):Oa Int:=(bz a).bind λb=>cond (!b.1) (Y ((-1:Int),())) (Ze ((4:Int)≠0)<|some (K3.wrap (Lg a (4:Int)),()))
def fU(a:Qq)(b:Int):Od Qq Int Bool:=(rc a).bind λc=>(gG (!c.1) (Zy b (0:Int) (K3.wrap (a.2.1-1)))).bind λe=>bif(!c.1)||(!e.1)then Y (a,(0:Int),K4,()) else let d:Int:=max (K3.wrap ((K3.wrap (b+1))-a.2.2.1)) (0:Int);Y ((tP a (K3.wrap (a.2.2.1+d))),d,Lb,())
def xF(K1:(Zf×Int×Int×Unit)->Option ((Int×Unit)×(Zf×Unit)))(a:Zf)(b c:Int)(d:Zh):Option ((Int×Unit)×(Zf×Unit)):=(lk (a:Id) d).bind λe=>K1 ((tD a e.1),b,K3.wrap (c-1),())
def nT(b:Zf)(c a:Int):Nat:=(a-0).toNat+2
def dH:Nat->Zf->Int->Int->Option ((Int×Unit)×(Zf×Unit))|0,_,_,_=>Lc|N+1,a,c,b=>bif La (b>=(0:Int))then let d:Int:=K3.wrap (c- (K3.wrap ((4:Int)*b)));ca 1 ((vi a.1 d a.2.1 a.2.2.1).bind λe=>xF (λv=>dH N v.1 v.2.1 v.2.2.1) a c b e.1 ) else bif La (((a:Id).length:Int)>(24:Int))then Y (((4:Int),()),a,()) else Y (((0:Int),()),a,())
def jl(a:Zf)(b c:Int):Option ((Int×Unit)×(Zf×Unit)):=dH (nT a b (K3.wrap (c-1))) a b (K3.wrap (c-1))
def Jt(c:Zf)(d:Int)(e:Qq)(b:Int)(f:Bool):Option ((Int×Unit)×(Zf×Unit)):=cond (((!f)||(b==0))||(La (b>(K3.wrap ((24:Int)- ((c:Id).length:Int)))))) (Y (((4:Int),()),c,())) ((Z2 c d).bind λa=>cond a.1 (jl (tB a.2.1 e) d b) (jl (tC a.2.1 e) d b))
def cg(e:Zf)(a:Int):Option ((Int×Unit)×(Zf×Unit)):=(Z5 (e:Id) a).bind λh=>cond (La (h.1>=(0:Int))) (Y (((0:Int),()),e,())) ((Vk e.1 a).bind λi=>cond i.1 (Y (((5:Int),()),e,())) (jj ((Z2 e a).bind λb=>cond b.1 (jj ((j7 a).bind λf=>ca 1 ((fU (b:ZaU) f.1).bind λc=>Jt b.2.1 a c.1 c.2.1 c.2.2.1)) ((j7 a).bind λf=>(fU (b:ZaU) f.1).bind λc=>Jt b.2.1 a c.1 c.2.1 c.2.2.1)) (jj ((j7 a).bind λg=>ca 1 ((fU (b:ZaO) g.1).bind λd=>Jt b.2.1 a d.1 d.2.1 d.2.2.1)) ((j7 a).bind λg=>(fU (b:ZaO) g.1).bind λd=>Jt b.2.1 a d.1 d.2.1 d.2.2.1))) ((Z2 e a).bind λb=>cond b.1 ((j7 a).bind λf=>(fU (b:ZaU) f.1).bind λc=>Jt b.2.1 a c.1 c.2.1 c.2.2.1) ((j7 a).bind λg=>(fU (b:ZaO) g.1).bind λd=>Jt b.2.1 a d.1 d.2.1 d.2.2.1))))
def yd(a:Zz)(b:Int):Oa Int:=(bw a).bind λc=>(cond (!c.1) (Y (K4,())) (Xk b)).bind λd=>cond ((!c.1)||(!d.1)) (Y ((0:Int),())) (Y (max (K3.wrap (b-(a:Zau))) (0:Int),()))
def re(a:Qp):Oa Int:=(km a).bind λb=>cond (!b.1) (Y ((0:Int),())) (Y (K3.wrap (a.2.2.1-(a:ZaD)),()))
def xe(a:Zz)(b:Int)(c:Bool):Oa Bool:=Y ((((a:Or) !=(-1:Int))&&(La (b>(a:Or))))||(c&&((((a:Or) !=(-1:Int))&&(b !=(a:Or)))||(La (b<(a:Zau))))),())
def sa(l:List Z6):Option (Unit×List Z6):=zX l
def xJ(c d:List Z6)(a b:Int):Nat:=(a-b).toNat+1
def lu:Nat->List Z6->List Z6->Int->Int->Oa (List Z6)|0,_,_,_,_=>Lc|N+1,b,d,e,c=>bif La (c<e)then gH d c<|let a:Int:=K3.wrap ((b.length:Int)- (1:Int));Ze (((La (a>=(0:Int)))=Lb->(0<=a/\a<b.length)))<|(cond (La (a>=(0:Int))) (gi (gL b a)) (Y ((0:Int),()))).bind λf=>bif(La (a>=(0:Int)))&&(f.1==(gL d c).1)then gH b a<|Ze ((gL b a).2.1.length+(gL d c).2.1.length<=Ym)<|gH b a<|lu N (b.set a.toNat (tT (gL b a) ((gL b a).2.1++(gL d c).2.1))) d e (K3.wrap (c+1)) else Ze (b.length+([(gL d c)]).length<=Qg)<|lu N (b++([(gL d c)])) d e (K3.wrap (c+1)) else Y (b,())
def zM(a:List Z6):Oa (List Z6):=lu (xJ ([]:List Z6) a (a.length:Int) (0:Int)) ([]:List Z6) a (a.length:Int) (0:Int)
def oU(c:Zx)(d:Int)(e:Ba)(f:Zx)(g h:Int)(i j:List Z6)(a b:Int):Nat:=(a-b).toNat+1
def fb:Nat->Zx->Int->Ba->Zx->Int->Int->List Z6->List Z6->Int->Int->Oa Zx|0,_,_,_,_,_,_,_,_,_,_=>Lc|N+1,h,c,g,m,a,e,f,d,i,b=>bif La (b<i)then gH d b<|bif La (a<(min (gL d b).1 e))then let j:Int:=K3.wrap ((min (gL d b).1 e)-c);Ze (0<=(K3.wrap (a-c))/\(K3.wrap (a-c))<=j/\j<=g.length)<|let k:List Z6:=[(a,(g.drop (K3.wrap (a-c)).toNat).take (j.toNat- (K3.wrap (a-c)).toNat),())];Ze (f.length+k.length<=Qg)<|Ze ((f++k).length+([(gL d b)]).length<=Qg)<|(gi (gL d b)).bind λo=>fb N h c g m (max a o.1) e ((f++k)++([(gL d b)])) d i (K3.wrap (b+1)) else Ze (f.length+([(gL d b)]).length<=Qg)<|(gi (gL d b)).bind λp=>fb N h c g m (max a p.1) e (f++([(gL d b)])) d i (K3.wrap (b+1)) else bif La (a<(min e e))then let l:Int:=K3.wrap ((min e e)-c);Ze (0<=(K3.wrap (a-c))/\(K3.wrap (a-c))<=l/\l<=g.length)<|let n:List Z6:=[(a,(g.drop (K3.wrap (a-c)).toNat).take (l.toNat- (K3.wrap (a-c)).toNat),())];Ze (f.length+n.length<=Qg)<|(sa (f++n)).bind λq=>(zM q.2).bind λr=>Y ((h.1,r.1,()),()) else(sa f).bind λs=>(zM s.2).bind λt=>Y ((h.1,t.1,()),())
def zo(a:Zx)(b:Int)(c:Ba)(d:Zx)(e f:Int):Oa Zx:=fb (oU a b c d e f ([]:List Z6) a.2.1 (a.2.1.length:Int) (0:Int)) a b c d e f ([]:List Z6) a.2.1 (a.2.1.length:Int) (0:Int)
def yI(b:Zx)(a:Int)(c:Ba):Oa Zx:=(nV b).bind λd=>bif((((!d.1)||(c==([]:Ba)))||(La (a<(0:Int))))||(La (a>(K3.wrap ((4611686018427387903:Int)- (c.length:Int))))))||(La ((K3.wrap (a+(c.length:Int)))<=b.1))then(dX b).bind λe=>Y (e.1,()) else let f:Int:=K3.wrap (a+(c.length:Int));ca 1 (zo b a c ((0:Int),([]:List Z6),()) (max a b.1) f )
def xH(b a:Zz):Oc Zz Int:=Y (a,(0:Int),())
def jm(d:Int)(e:Ba)(f c a:Zz):Oc Zz Int:=(yI f.2.1 d e).bind λb=>(cond ((a:Or) !=(-1:Int)) (yh b.1) (Y ((0:Int),()))).bind λg=>cond (((a:Or) !=(-1:Int))&&(g.1==(a:Or))) (xH c ((2:Int),b.1,a.2.2)) (xH c (a.1,b.1,a.2.2))
def xa(b:Zz)(c:Int)(d:Ba)(f:Bool):Oc Zz Int:=(aW b).bind λa=>(bw b).bind λg=>bif((!g.1)||(La (c<(0:Int))))||(La (c>(K3.wrap ((4611686018427387903:Int)- (d.length:Int)))))then Y (a.1,(7:Int),()) else let e:Int:=K3.wrap (c+(d.length:Int));(xe b e f).bind λh=>bif h.1 then Y (a.1,(6:Int),()) else(lv b).bind λi=>bif !i.1 then Y (a.1,(0:Int),()) else bif f then jm c d b qq ((1:Int),a.1.2.1,e,max (b:Zau) e,a.1.2.2.2.2) else jm c d b qq (tD a.1 (max (b:Zau) e))
def nX(a:Qp)(b:Int):Oc Qp Bool:=(km a).bind λc=>(gG (!c.1) (Zy b (0:Int) (K3.wrap (a.2.2.1-(a:ZaD))))).bind λd=>cond ((!c.1)||(!d.1)) (Y (a,K4,())) (Y ((tD a (K3.wrap ((a:ZaD)+b))),Lb,()))
def yG(h:Zf)(g:Zj):Oc Zf Int:=(ck h).bind λm=>(gG (!m.1) (Wq g)).bind λr=>bif((!m.1)||(!r.1))||(!(g.1==8))then(Zu h).bind λs=>Y (s.1,(7:Int),()) else(Zu h).bind λn=>(iB n.1.1 g.2.1).bind λt=>bif !t.1 then(Zu h).bind λu=>Y (u.1,(5:Int),()) else(cg n.1 g.2.1).bind λa=>bif a.1.1 !=0 then bif a.1.1 !=0 then(Zu h).bind λv=>Y (v.1,a.1.1,()) else Y (a.2.1,(0:Int),()) else(Z5 (a:ZaK) g.2.1).bind λf=>gH (a:ZaK) f.1<|(yd (gJ (a:ZaK) f.1:Fd) (K3.wrap ((g:LT)+((g:IO).length:Int)))).bind λi=>(re (gJ (a:ZaK) f.1:Fn)).bind λo=>(cond (La (i.1>o.1)) (Y ((0:Int),())) (re a.2.1.2.2.2.2.2.1)).bind λw=>bif(La (i.1>o.1))||(La (i.1>w.1))then(Zu h).bind λx=>Y (x.1,(3:Int),()) else ca 1 ((xa (gJ (a:ZaK) f.1:Fd) (g:LT) (g:IO) (g:Zas)).bind λk=>bif k.2.1 !=0 then bif k.2.1 !=0 then(Zu h).bind λy=>Y (y.1,k.2.1,()) else Y (a.2.1,(0:Int),()) else(nX (gJ (a:ZaK) f.1:Fn) i.1).bind λz=>let j:List Zh:=(a:ZaK).set f.1.toNat (tH (gJ (a:ZaK) f.1) z.1);(nX a.2.1.2.2.2.2.2.1 i.1).bind λp=>let d:List Zh:=j.set f.1.toNat (tD (gJ j f.1) k.1);(Z5 d g.2.1).bind λe=>gH d e.1<|(Vk a.2.1.1 g.2.1).bind λA=>let q:Bool:=A.1||(gJ d e.1:Zaw).2.1;(gG q (Vd (gJ d e.1))).bind λB=>bif q||(!B.1)then Y ((tR a.2.1 d p.1),(0:Int),()) else let C:List Zh:=d.set e.1.toNat (tA (gJ d e.1) Lb);Lf (Z2 (tR a.2.1 C p.1) g.2.1) λl=>bif l.1 then(Z2 l.2.1 g.2.1).bind λb=>bif b.1 then(Z0 (b:ZaU)).bind λD=>let E:Zf:=(tB b.2.1 D.1);Y (E,(0:Int),()) else(Z0 (b:ZaO)).bind λF=>let G:Zf:=(tB b.2.1 F.1);Y (G,(0:Int),()) else(Z2 l.2.1 g.2.1).bind λc=>bif c.1 then(Z0 (c:ZaU)).bind λH=>let I:Zf:=(tC c.2.1 H.1);Y (I,(0:Int),()) else(Z0 (c:ZaO)).bind λJ=>let K:Zf:=(tC c.2.1 J.1);Y (K,(0:Int),()) )
def uA(b:Zz)(e c:Int):Oc Zz Int:=(aW b).bind λa=>(bw b).bind λd=>(gG (!d.1) (Xk e)).bind λf=>(gG ((!d.1)||(!f.1)) (Xk c)).bind λg=>cond (((!d.1)||(!f.1))||(!g.1)) (Y (a.1,(7:Int),())) ((xe b c Lb).bind λh=>cond h.1 (Y (a.1,(6:Int),())) ((lv b).bind λi=>cond (!i.1) (Y (a.1,(0:Int),())) (Y (((4:Int),(tT a.1.2.1 ([]:List Z6)),c,c,e,a.1.2.2.2.2.2),(0:Int),()))))
def wx(l:Zf)(i:Zj):Oc Zf Int:=(ck l).bind λs=>(gG (!s.1) (Wq i)).bind λz=>bif((!s.1)||(!z.1))||(!(i.1==4))then(Zu l).bind λA=>Y (A.1,(7:Int),()) else(Zu l).bind λt=>(iB t.1.1 i.2.1).bind λB=>bif !B.1 then(Zu l).bind λC=>Y (C.1,(5:Int),()) else(cg t.1 i.2.1).bind λa=>bif a.1.1 !=0 then bif a.1.1 !=0 then(Zu l).bind λD=>Y (D.1,a.1.1,()) else Y (a.2.1,(0:Int),()) else(Z5 (a:ZaK) i.2.1).bind λc=>gH (a:ZaK) c.1<|(yd (gJ (a:ZaK) c.1:Fd) (i:Zax)).bind λn=>(re (gJ (a:ZaK) c.1:Fn)).bind λu=>(cond (La (n.1>u.1)) (Y ((0:Int),())) (re a.2.1.2.2.2.2.2.1)).bind λE=>bif(La (n.1>u.1))||(La (n.1>E.1))then(Zu l).bind λF=>Y (F.1,(3:Int),()) else ca 1 ((uA (gJ (a:ZaK) c.1:Fd) (i:Zap) (i:Zax)).bind λo=>bif o.2.1 !=0 then bif o.2.1 !=0 then(Zu l).bind λG=>Y (G.1,o.2.1,()) else Y (a.2.1,(0:Int),()) else(nX (gJ (a:ZaK) c.1:Fn) n.1).bind λH=>let m:List Zh:=(a:ZaK).set c.1.toNat (tH (gJ (a:ZaK) c.1) H.1);(nX a.2.1.2.2.2.2.2.1 n.1).bind λp=>let I:Bool:=(gJ m c.1:Zat) !=4;let b:List Zh:=m.set c.1.toNat (tD (gJ m c.1) o.1);bif(o.1.1==4)&&I then let v:Int:=K3.wrap ((i:Zax)- (gJ b c.1:ZaY).2.1);(W7 (gJ b c.1:Fn) v).bind λJ=>let h:List Zh:=b.set c.1.toNat (tH (gJ b c.1) J.1);(W7 p.1 v).bind λw=>(Z5 h i.2.1).bind λj=>gH h j.1<|(Vk a.2.1.1 i.2.1).bind λK=>let x:Bool:=K.1||(gJ h j.1:Zaw).2.1;(gG x (Vd (gJ h j.1))).bind λL=>bif x||(!L.1)then Y ((tR a.2.1 h w.1),(0:Int),()) else let M:List Zh:=h.set j.1.toNat (tA (gJ h j.1) Lb);Lf (Z2 (tR a.2.1 M w.1) i.2.1) λq=>bif q.1 then(Z2 q.2.1 i.2.1).bind λd=>bif d.1 then(Z0 (d:ZaU)).bind λO=>let P:Zf:=(tB d.2.1 O.1);Y (P,(0:Int),()) else(Z0 (d:ZaO)).bind λQ=>let S:Zf:=(tB d.2.1 Q.1);Y (S,(0:Int),()) else(Z2 q.2.1 i.2.1).bind λf=>bif f.1 then(Z0 (f:ZaU)).bind λU=>let V:Zf:=(tC f.2.1 U.1);Y (V,(0:Int),()) else(Z0 (f:ZaO)).bind λW=>let X:Zf:=(tC f.2.1 W.1);Y (X,(0:Int),()) else(Z5 b i.2.1).bind λk=>gH b k.1<|(Vk a.2.1.1 i.2.1).bind λaa=>let y:Bool:=aa.1||(gJ b k.1:Zaw).2.1;(gG y (Vd (gJ b k.1))).bind λab=>bif y||(!ab.1)then Y ((tR a.2.1 b p.1),(0:Int),()) else let ac:List Zh:=b.set k.1.toNat (tA (gJ b k.1) Lb);Lf (Z2 (tR a.2.1 ac p.1) i.2.1) λr=>bif r.1 then(Z2 r.2.1 i.2.1).bind λe=>bif e.1 then(Z0 (e:ZaU)).bind λad=>let ae:Zf:=(tB e.2.1 ad.1);Y (ae,(0:Int),()) else(Z0 (e:ZaO)).bind λaf=>let ag:Zf:=(tB e.2.1 af.1);Y (ag,(0:Int),()) else(Z2 r.2.1 i.2.1).bind λg=>bif g.1 then(Z0 (g:ZaU)).bind λah=>let ai:Zf:=(tC g.2.1 ah.1);Y (ai,(0:Int),()) else(Z0 (g:ZaO)).bind λaj=>let ak:Zf:=(tC g.2.1 aj.1);Y (ak,(0:Int),()) )
def xI(b:Int)(a d:Zn)(c:Q9):Oc Zn Bool:=Y (((4:Int),c,([]:List Zi),([]:List Zi),([]:List Zi),(a:Zal),(0:Int),(a:Zal),b,()),Lb,())
def kv(a:Zn)(b:Int):Oc Zn Bool:=(bh a).bind λc=>(gG (!c.1) (Xk b)).bind λd=>cond ((!c.1)||(!d.1)) ((Vy a).bind λe=>Y (e.1,K4,())) (jj (Ze (0<=a.2.1.1/\a.2.1.1<=a.2.1.1/\a.2.1.1<=Qg)<|ca 1 (xI b a Jn (a.2.1.1,(a:Zal),(a:Zal),Lh a.2.1.1.toNat (0:Int),()))) (Ze (0<=a.2.1.1/\a.2.1.1<=a.2.1.1/\a.2.1.1<=Qg)<|xI b a Jn (a.2.1.1,(a:Zal),(a:Zal),Lh a.2.1.1.toNat (0:Int),())))
end Go.Proofs.YtglbkfajafconaaGreatDoor

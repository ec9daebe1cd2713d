/- FnExactIsFaithful: what the functions that it reaches compute, as plain functions, and that they do so. No condition. -/
import Derived.Test.YtckmkhiiobonmaaRows
import Derived.Test.YtckmkhiiobonmaaAm4
namespace Go.Proofs.Ytckmkhiiobonmaa
open Go.Am
set_option maxRecDepth 100000
set_option linter.unusedVariables false

@[reducible] def tyLetter : Ty := .pair (.int .i64) (.pair (.str) (.unit))
@[reducible] def TLetter : Type := Int × List UInt8 × Unit
def zLetter : TLetter := ((0 : Int), (([] : List UInt8), ()))
@[reducible] def tyPriority : Ty := .pair (.int .i64) (.pair (.bool) (.unit))
@[reducible] def TPriority : Type := Int × Bool × Unit
def zPriority : TPriority := ((0 : Int), (false, ()))
@[reducible] def tyRange : Ty := .pair (.int .i64) (.pair (.int .i64) (.unit))
@[reducible] def TRange : Type := Int × Int × Unit
def zRange : TRange := ((0 : Int), ((0 : Int), ()))
@[reducible] def tyCount : Ty := .pair (.int .i64) (tyRange)
@[reducible] def TCount : Type := Int × TRange
def zCount : TCount := ((0 : Int), ((0 : Int), ((0 : Int), ())))
@[reducible] def tyAllow : Ty := .pair (.int .i64) (tyCount)
@[reducible] def TAllow : Type := Int × TCount
def zAllow : TAllow := ((0 : Int), ((0 : Int), ((0 : Int), ((0 : Int), ()))))
@[reducible] def tyBuffer : Ty := .pair (.int .i64) (.pair (.slice 175 (tyLetter)) (.unit))
@[reducible] def TBuffer : Type := Int × List TLetter × Unit
def zBuffer : TBuffer := ((0 : Int), (([] : List TLetter), ()))
@[reducible] def tyRing : Ty := .pair (.int .i64) (.pair (.int .i64) (.pair (.int .i64) (.pair (.slice 3 (.int .i64)) (.unit))))
@[reducible] def TRing : Type := Int × Int × Int × List Int × Unit
def zRing : TRing := ((0 : Int), ((0 : Int), ((0 : Int), (([] : List Int), ()))))
@[reducible] def tyBufferx : Ty := .pair (.int .i64) (.pair (.slice 176 (tyLetter)) (.unit))
@[reducible] def TBufferx : Type := Int × List TLetter × Unit
def zBufferx : TBufferx := ((0 : Int), (([] : List TLetter), ()))
@[reducible] def tyWindow : Ty := .pair (.int .i64) (.pair (.int .i64) (tyAllow))
@[reducible] def TWindow : Type := Int × Int × TAllow
def zWindow : TWindow := ((0 : Int), ((0 : Int), ((0 : Int), ((0 : Int), ((0 : Int), ((0 : Int), ()))))))
@[reducible] def tyTrack : Ty := .pair (.int .i64) (.pair (.bool) (.pair (.str) (.pair (.str) (.pair (.bool) (.pair (.bool) (.pair (.bool) (.unit)))))))
@[reducible] def TTrack : Type := Int × Bool × List UInt8 × List UInt8 × Bool × Bool × Bool × Unit
def zTrack : TTrack := ((0 : Int), (false, (([] : List UInt8), (([] : List UInt8), (false, (false, (false, ())))))))
@[reducible] def tyConf : Ty := .pair (.int .i64) (.pair (.int .i64) (tyWindow))
@[reducible] def TConf : Type := Int × Int × TWindow
def zConf : TConf := ((0 : Int), ((0 : Int), ((0 : Int), ((0 : Int), ((0 : Int), ((0 : Int), ((0 : Int), ((0 : Int), ()))))))))
@[reducible] def tyFrame : Ty := .pair (.int .i64) (.pair (.int .i64) (.pair (.int .i64) (.pair (.str) (.pair (.bool) (.pair (.int .i64) (.pair (.int .i64) (tyPriority)))))))
@[reducible] def TFrame : Type := Int × Int × Int × List UInt8 × Bool × Int × Int × TPriority
def zFrame : TFrame := ((0 : Int), ((0 : Int), ((0 : Int), (([] : List UInt8), (false, ((0 : Int), ((0 : Int), ((0 : Int), (false, ())))))))))
@[reducible] def tyReceiver : Ty := .pair (.int .i64) (.pair (tyBuffer) (tyCount))
@[reducible] def TReceiver : Type := Int × TBuffer × TCount
def zReceiver : TReceiver := ((0 : Int), (((0 : Int), (([] : List TLetter), ())), ((0 : Int), ((0 : Int), ((0 : Int), ())))))
@[reducible] def tyReceiverx : Ty := .pair (.int .i64) (.pair (tyBufferx) (tyCount))
@[reducible] def TReceiverx : Type := Int × TBufferx × TCount
def zReceiverx : TReceiverx := ((0 : Int), (((0 : Int), (([] : List TLetter), ())), ((0 : Int), ((0 : Int), ((0 : Int), ())))))
@[reducible] def tyPacket : Ty := .pair (.int .i64) (.pair (.slice 152 (tyFrame)) (.unit))
@[reducible] def TPacket : Type := Int × List TFrame × Unit
def zPacket : TPacket := ((0 : Int), (([] : List TFrame), ()))
@[reducible] def tyPacketx : Ty := .pair (.int .i64) (.pair (.slice 156 (tyFrame)) (.unit))
@[reducible] def TPacketx : Type := Int × List TFrame × Unit
def zPacketx : TPacketx := ((0 : Int), (([] : List TFrame), ()))
@[reducible] def tySender : Ty := .pair (.int .i64) (.pair (tyRing) (.pair (.slice 168 (tyRange)) (.pair (.slice 168 (tyRange)) (.pair (.slice 168 (tyRange)) (tyAllow)))))
@[reducible] def TSender : Type := Int × TRing × List TRange × List TRange × List TRange × TAllow
def zSender : TSender := ((0 : Int), (((0 : Int), ((0 : Int), ((0 : Int), (([] : List Int), ())))), (([] : List TRange), (([] : List TRange), (([] : List TRange), ((0 : Int), ((0 : Int), ((0 : Int), ((0 : Int), ())))))))))
@[reducible] def tySenderx : Ty := .pair (.int .i64) (.pair (tyRing) (.pair (.slice 166 (tyRange)) (.pair (.slice 166 (tyRange)) (.pair (.slice 166 (tyRange)) (tyAllow)))))
@[reducible] def TSenderx : Type := Int × TRing × List TRange × List TRange × List TRange × TAllow
def zSenderx : TSenderx := ((0 : Int), (((0 : Int), ((0 : Int), ((0 : Int), (([] : List Int), ())))), (([] : List TRange), (([] : List TRange), (([] : List TRange), ((0 : Int), ((0 : Int), ((0 : Int), ((0 : Int), ())))))))))
@[reducible] def tyStream : Ty := .pair (.int .i64) (.pair (tySender) (.pair (tyAllow) (.pair (tyReceiver) (.pair (tyWindow) (.pair (tyPriority) (.pair (.bool) (.pair (.bool) (.pair (.bool) (.pair (.bool) (.pair (.bool) (.pair (.bool) (tyPriority))))))))))))
@[reducible] def TStream : Type := Int × TSender × TAllow × TReceiver × TWindow × TPriority × Bool × Bool × Bool × Bool × Bool × Bool × TPriority
def zStream : TStream := ((0 : Int), (((0 : Int), (((0 : Int), ((0 : Int), ((0 : Int), (([] : List Int), ())))), (([] : List TRange), (([] : List TRange), (([] : List TRange), ((0 : Int), ((0 : Int), ((0 : Int), ((0 : Int), ()))))))))), (((0 : Int), ((0 : Int), ((0 : Int), ((0 : Int), ())))), (((0 : Int), (((0 : Int), (([] : List TLetter), ())), ((0 : Int), ((0 : Int), ((0 : Int), ()))))), (((0 : Int), ((0 : Int), ((0 : Int), ((0 : Int), ((0 : Int), ((0 : Int), ())))))), (((0 : Int), (false, ())), (false, (false, (false, (false, (false, (false, ((0 : Int), (false, ()))))))))))))))
@[reducible] def tyStreamx : Ty := .pair (.int .i64) (.pair (tySenderx) (.pair (tyAllow) (.pair (tyReceiverx) (.pair (tyWindow) (.pair (tyPriority) (.pair (.bool) (.pair (.bool) (.pair (.bool) (.pair (.bool) (.pair (.bool) (.pair (.bool) (tyPriority))))))))))))
@[reducible] def TStreamx : Type := Int × TSenderx × TAllow × TReceiverx × TWindow × TPriority × Bool × Bool × Bool × Bool × Bool × Bool × TPriority
def zStreamx : TStreamx := ((0 : Int), (((0 : Int), (((0 : Int), ((0 : Int), ((0 : Int), (([] : List Int), ())))), (([] : List TRange), (([] : List TRange), (([] : List TRange), ((0 : Int), ((0 : Int), ((0 : Int), ((0 : Int), ()))))))))), (((0 : Int), ((0 : Int), ((0 : Int), ((0 : Int), ())))), (((0 : Int), (((0 : Int), (([] : List TLetter), ())), ((0 : Int), ((0 : Int), ((0 : Int), ()))))), (((0 : Int), ((0 : Int), ((0 : Int), ((0 : Int), ((0 : Int), ((0 : Int), ())))))), (((0 : Int), (false, ())), (false, (false, (false, (false, (false, (false, ((0 : Int), (false, ()))))))))))))))
@[reducible] def tyConn : Ty := .pair (.bool) (.pair (tyConf) (.pair (tyConf) (.pair (.slice 112 (tyStream)) (.pair (tyAllow) (.pair (tyWindow) (.pair (tyCount) (.pair (tyCount) (.pair (tyAllow) (.pair (tyAllow) (.pair (.bool) (.pair (.bool) (.pair (.bool) (.pair (.int .i64) (.pair (.int .i64) (.pair (.slice 116 (tyPacket)) (tyRange))))))))))))))))
@[reducible] def TConn : Type := Bool × TConf × TConf × List TStream × TAllow × TWindow × TCount × TCount × TAllow × TAllow × Bool × Bool × Bool × Int × Int × List TPacket × TRange
def zConn : TConn := (false, (((0 : Int), ((0 : Int), ((0 : Int), ((0 : Int), ((0 : Int), ((0 : Int), ((0 : Int), ((0 : Int), ())))))))), (((0 : Int), ((0 : Int), ((0 : Int), ((0 : Int), ((0 : Int), ((0 : Int), ((0 : Int), ((0 : Int), ())))))))), (([] : List TStream), (((0 : Int), ((0 : Int), ((0 : Int), ((0 : Int), ())))), (((0 : Int), ((0 : Int), ((0 : Int), ((0 : Int), ((0 : Int), ((0 : Int), ())))))), (((0 : Int), ((0 : Int), ((0 : Int), ()))), (((0 : Int), ((0 : Int), ((0 : Int), ()))), (((0 : Int), ((0 : Int), ((0 : Int), ((0 : Int), ())))), (((0 : Int), ((0 : Int), ((0 : Int), ((0 : Int), ())))), (false, (false, (false, ((0 : Int), ((0 : Int), (([] : List TPacket), ((0 : Int), ((0 : Int), ()))))))))))))))))))
@[reducible] def tyConnx : Ty := .pair (.bool) (.pair (tyConf) (.pair (tyConf) (.pair (.slice 128 (tyStreamx)) (.pair (tyAllow) (.pair (tyWindow) (.pair (tyCount) (.pair (tyCount) (.pair (tyAllow) (.pair (tyAllow) (.pair (.bool) (.pair (.bool) (.pair (.bool) (.pair (.int .i64) (.pair (.int .i64) (.pair (.slice 132 (tyPacketx)) (tyRange))))))))))))))))
@[reducible] def TConnx : Type := Bool × TConf × TConf × List TStreamx × TAllow × TWindow × TCount × TCount × TAllow × TAllow × Bool × Bool × Bool × Int × Int × List TPacketx × TRange
def zConnx : TConnx := (false, (((0 : Int), ((0 : Int), ((0 : Int), ((0 : Int), ((0 : Int), ((0 : Int), ((0 : Int), ((0 : Int), ())))))))), (((0 : Int), ((0 : Int), ((0 : Int), ((0 : Int), ((0 : Int), ((0 : Int), ((0 : Int), ((0 : Int), ())))))))), (([] : List TStreamx), (((0 : Int), ((0 : Int), ((0 : Int), ((0 : Int), ())))), (((0 : Int), ((0 : Int), ((0 : Int), ((0 : Int), ((0 : Int), ((0 : Int), ())))))), (((0 : Int), ((0 : Int), ((0 : Int), ()))), (((0 : Int), ((0 : Int), ((0 : Int), ()))), (((0 : Int), ((0 : Int), ((0 : Int), ((0 : Int), ())))), (((0 : Int), ((0 : Int), ((0 : Int), ((0 : Int), ())))), (false, (false, (false, ((0 : Int), ((0 : Int), (([] : List TPacketx), ((0 : Int), ((0 : Int), ()))))))))))))))))))
@[reducible] def tyPair : Ty := .pair (tyConn) (.pair (tyConn) (.pair (.slice 75 (tyLetter)) (.pair (.slice 75 (tyLetter)) (.pair (.slice 77 (tyTrack)) (.unit)))))
@[reducible] def TPair : Type := TConn × TConn × List TLetter × List TLetter × List TTrack × Unit
def zPair : TPair := ((false, (((0 : Int), ((0 : Int), ((0 : Int), ((0 : Int), ((0 : Int), ((0 : Int), ((0 : Int), ((0 : Int), ())))))))), (((0 : Int), ((0 : Int), ((0 : Int), ((0 : Int), ((0 : Int), ((0 : Int), ((0 : Int), ((0 : Int), ())))))))), (([] : List TStream), (((0 : Int), ((0 : Int), ((0 : Int), ((0 : Int), ())))), (((0 : Int), ((0 : Int), ((0 : Int), ((0 : Int), ((0 : Int), ((0 : Int), ())))))), (((0 : Int), ((0 : Int), ((0 : Int), ()))), (((0 : Int), ((0 : Int), ((0 : Int), ()))), (((0 : Int), ((0 : Int), ((0 : Int), ((0 : Int), ())))), (((0 : Int), ((0 : Int), ((0 : Int), ((0 : Int), ())))), (false, (false, (false, ((0 : Int), ((0 : Int), (([] : List TPacket), ((0 : Int), ((0 : Int), ())))))))))))))))))), ((false, (((0 : Int), ((0 : Int), ((0 : Int), ((0 : Int), ((0 : Int), ((0 : Int), ((0 : Int), ((0 : Int), ())))))))), (((0 : Int), ((0 : Int), ((0 : Int), ((0 : Int), ((0 : Int), ((0 : Int), ((0 : Int), ((0 : Int), ())))))))), (([] : List TStream), (((0 : Int), ((0 : Int), ((0 : Int), ((0 : Int), ())))), (((0 : Int), ((0 : Int), ((0 : Int), ((0 : Int), ((0 : Int), ((0 : Int), ())))))), (((0 : Int), ((0 : Int), ((0 : Int), ()))), (((0 : Int), ((0 : Int), ((0 : Int), ()))), (((0 : Int), ((0 : Int), ((0 : Int), ((0 : Int), ())))), (((0 : Int), ((0 : Int), ((0 : Int), ((0 : Int), ())))), (false, (false, (false, ((0 : Int), ((0 : Int), (([] : List TPacket), ((0 : Int), ((0 : Int), ())))))))))))))))))), (([] : List TLetter), (([] : List TLetter), (([] : List TTrack), ())))))
@[reducible] def tyPairx : Ty := .pair (tyConnx) (.pair (tyConnx) (.pair (.slice 85 (tyLetter)) (.pair (.slice 85 (tyLetter)) (.pair (.slice 63 (tyTrack)) (.unit)))))
@[reducible] def TPairx : Type := TConnx × TConnx × List TLetter × List TLetter × List TTrack × Unit
def zPairx : TPairx := ((false, (((0 : Int), ((0 : Int), ((0 : Int), ((0 : Int), ((0 : Int), ((0 : Int), ((0 : Int), ((0 : Int), ())))))))), (((0 : Int), ((0 : Int), ((0 : Int), ((0 : Int), ((0 : Int), ((0 : Int), ((0 : Int), ((0 : Int), ())))))))), (([] : List TStreamx), (((0 : Int), ((0 : Int), ((0 : Int), ((0 : Int), ())))), (((0 : Int), ((0 : Int), ((0 : Int), ((0 : Int), ((0 : Int), ((0 : Int), ())))))), (((0 : Int), ((0 : Int), ((0 : Int), ()))), (((0 : Int), ((0 : Int), ((0 : Int), ()))), (((0 : Int), ((0 : Int), ((0 : Int), ((0 : Int), ())))), (((0 : Int), ((0 : Int), ((0 : Int), ((0 : Int), ())))), (false, (false, (false, ((0 : Int), ((0 : Int), (([] : List TPacketx), ((0 : Int), ((0 : Int), ())))))))))))))))))), ((false, (((0 : Int), ((0 : Int), ((0 : Int), ((0 : Int), ((0 : Int), ((0 : Int), ((0 : Int), ((0 : Int), ())))))))), (((0 : Int), ((0 : Int), ((0 : Int), ((0 : Int), ((0 : Int), ((0 : Int), ((0 : Int), ((0 : Int), ())))))))), (([] : List TStreamx), (((0 : Int), ((0 : Int), ((0 : Int), ((0 : Int), ())))), (((0 : Int), ((0 : Int), ((0 : Int), ((0 : Int), ((0 : Int), ((0 : Int), ())))))), (((0 : Int), ((0 : Int), ((0 : Int), ()))), (((0 : Int), ((0 : Int), ((0 : Int), ()))), (((0 : Int), ((0 : Int), ((0 : Int), ((0 : Int), ())))), (((0 : Int), ((0 : Int), ((0 : Int), ((0 : Int), ())))), (false, (false, (false, ((0 : Int), ((0 : Int), (([] : List TPacketx), ((0 : Int), ((0 : Int), ())))))))))))))))))), (([] : List TLetter), (([] : List TLetter), (([] : List TTrack), ())))))
noncomputable def laws_szIntS (a0 : List Int) (left1 : Int) : Option (Int × Unit) :=
  let t8 : Int := IntKind.i64.wrap (left1 - (a0.length : Int))
  bif decide (t8 < (0 : Int)) then
    some ((-1 : Int), ())
  else
    some (t8, ())
noncomputable def laws_szRing (a0 : TRing) (left1 : Int) : Option (Int × Unit) :=
  Option.bind (laws_szIntS a0.2.2.2.1 left1) fun t8 =>
  bif decide (t8.1 < (0 : Int)) then
    some ((-1 : Int), ())
  else
    some (t8.1, ())
noncomputable def laws_szRangeS (a0 : List TRange) (left1 : Int) : Option (Int × Unit) :=
  let t8 : Int := IntKind.i64.wrap (left1 - (a0.length : Int))
  bif decide (t8 < (0 : Int)) then
    some ((-1 : Int), ())
  else
    some (t8, ())
noncomputable def laws_szSender (a0 : TSender) (left1 : Int) : Option (Int × Unit) :=
  Option.bind (laws_szRing a0.2.1 left1) fun t8 =>
  bif decide (t8.1 < (0 : Int)) then
    some ((-1 : Int), ())
  else
    Option.bind (laws_szRangeS a0.2.2.1 t8.1) fun t14 =>
    bif decide (t14.1 < (0 : Int)) then
      some ((-1 : Int), ())
    else
      Option.bind (laws_szRangeS a0.2.2.2.1 t14.1) fun t20 =>
      bif decide (t20.1 < (0 : Int)) then
        some ((-1 : Int), ())
      else
        Option.bind (laws_szRangeS a0.2.2.2.2.1 t20.1) fun t26 =>
        bif decide (t26.1 < (0 : Int)) then
          some ((-1 : Int), ())
        else
          some (t26.1, ())
noncomputable def laws_szChunk (a0 : TLetter) (left1 : Int) : Option (Int × Unit) :=
  let t9 : Int := IntKind.i64.wrap (left1 - (a0.2.1.length : Int))
  bif decide (t9 < (0 : Int)) then
    some ((-1 : Int), ())
  else
    some (t9, ())
@[reducible] def laws_szChunkS_l1_p : List PE := [.val 0 (.slice 175 (tyLetter)) (.u false), .val 1 (.int .i64) (.u false), .val 5 (.int .i64) (.u false)]
def laws_szChunkS_l1_fuel (a0_1 : List TLetter) (left1_1 : Int) (i5 : Int) : Nat := ((a0_1.length : Int) - i5).toNat + 1
noncomputable def laws_szChunkS_l1 : Nat → List TLetter → Int → Int → Option (Int × Unit)
  | 0, _, _, _ => none
  | N + 1, a0_1, left1_1, i5 =>
    bif decide (i5 < (a0_1.length : Int)) then
      guardP (0 ≤ i5 ∧ i5 < a0_1.length) <|
      Option.bind (laws_szChunk (a0_1.getD i5.toNat zLetter) left1_1) fun t23 =>
      bif decide (t23.1 < (0 : Int)) then
        some ((-1 : Int), ())
      else
        laws_szChunkS_l1 N a0_1 t23.1 (IntKind.i64.wrap (i5 + (1 : Int)))
    else
      some (left1_1, ())
noncomputable def laws_szChunkS (a0 : List TLetter) (left1 : Int) : Option (Int × Unit) :=
  let t9 : Int := IntKind.i64.wrap (left1 - (a0.length : Int))
  bif decide (t9 < (0 : Int)) then
    some ((-1 : Int), ())
  else
    laws_szChunkS_l1 (laws_szChunkS_l1_fuel a0 t9 (0 : Int)) a0 t9 (0 : Int)
noncomputable def laws_szBuffer (a0 : TBuffer) (left1 : Int) : Option (Int × Unit) :=
  Option.bind (laws_szChunkS a0.2.1 left1) fun t8 =>
  bif decide (t8.1 < (0 : Int)) then
    some ((-1 : Int), ())
  else
    some (t8.1, ())
noncomputable def laws_szReceiver (a0 : TReceiver) (left1 : Int) : Option (Int × Unit) :=
  Option.bind (laws_szBuffer a0.2.1 left1) fun t8 =>
  bif decide (t8.1 < (0 : Int)) then
    some ((-1 : Int), ())
  else
    some (t8.1, ())
noncomputable def laws_szStream (a0 : TStream) (left1 : Int) : Option (Int × Unit) :=
  Option.bind (laws_szSender a0.2.1 left1) fun t8 =>
  bif decide (t8.1 < (0 : Int)) then
    some ((-1 : Int), ())
  else
    Option.bind (laws_szReceiver a0.2.2.2.1 t8.1) fun t14 =>
    bif decide (t14.1 < (0 : Int)) then
      some ((-1 : Int), ())
    else
      some (t14.1, ())
@[reducible] def laws_szStreamS_l1_p : List PE := [.val 0 (.slice 112 (tyStream)) (.u false), .val 1 (.int .i64) (.u false), .val 5 (.int .i64) (.u false)]
def laws_szStreamS_l1_fuel (a0_1 : List TStream) (left1_1 : Int) (i5 : Int) : Nat := ((a0_1.length : Int) - i5).toNat + 1
noncomputable def laws_szStreamS_l1 : Nat → List TStream → Int → Int → Option (Int × Unit)
  | 0, _, _, _ => none
  | N + 1, a0_1, left1_1, i5 =>
    bif decide (i5 < (a0_1.length : Int)) then
      guardP (0 ≤ i5 ∧ i5 < a0_1.length) <|
      Option.bind (laws_szStream (a0_1.getD i5.toNat zStream) left1_1) fun t23 =>
      bif decide (t23.1 < (0 : Int)) then
        some ((-1 : Int), ())
      else
        laws_szStreamS_l1 N a0_1 t23.1 (IntKind.i64.wrap (i5 + (1 : Int)))
    else
      some (left1_1, ())
noncomputable def laws_szStreamS (a0 : List TStream) (left1 : Int) : Option (Int × Unit) :=
  let t9 : Int := IntKind.i64.wrap (left1 - (a0.length : Int))
  bif decide (t9 < (0 : Int)) then
    some ((-1 : Int), ())
  else
    laws_szStreamS_l1 (laws_szStreamS_l1_fuel a0 t9 (0 : Int)) a0 t9 (0 : Int)
noncomputable def laws_szFrame (a0 : TFrame) (left1 : Int) : Option (Int × Unit) :=
  let t9 : Int := IntKind.i64.wrap (left1 - (a0.2.2.2.1.length : Int))
  bif decide (t9 < (0 : Int)) then
    some ((-1 : Int), ())
  else
    some (t9, ())
@[reducible] def laws_szFrameS_l1_p : List PE := [.val 0 (.slice 152 (tyFrame)) (.u false), .val 1 (.int .i64) (.u false), .val 5 (.int .i64) (.u false)]
def laws_szFrameS_l1_fuel (a0_1 : List TFrame) (left1_1 : Int) (i5 : Int) : Nat := ((a0_1.length : Int) - i5).toNat + 1
noncomputable def laws_szFrameS_l1 : Nat → List TFrame → Int → Int → Option (Int × Unit)
  | 0, _, _, _ => none
  | N + 1, a0_1, left1_1, i5 =>
    bif decide (i5 < (a0_1.length : Int)) then
      guardP (0 ≤ i5 ∧ i5 < a0_1.length) <|
      Option.bind (laws_szFrame (a0_1.getD i5.toNat zFrame) left1_1) fun t23 =>
      bif decide (t23.1 < (0 : Int)) then
        some ((-1 : Int), ())
      else
        laws_szFrameS_l1 N a0_1 t23.1 (IntKind.i64.wrap (i5 + (1 : Int)))
    else
      some (left1_1, ())
noncomputable def laws_szFrameS (a0 : List TFrame) (left1 : Int) : Option (Int × Unit) :=
  let t9 : Int := IntKind.i64.wrap (left1 - (a0.length : Int))
  bif decide (t9 < (0 : Int)) then
    some ((-1 : Int), ())
  else
    laws_szFrameS_l1 (laws_szFrameS_l1_fuel a0 t9 (0 : Int)) a0 t9 (0 : Int)
noncomputable def laws_szPacket (a0 : TPacket) (left1 : Int) : Option (Int × Unit) :=
  Option.bind (laws_szFrameS a0.2.1 left1) fun t8 =>
  bif decide (t8.1 < (0 : Int)) then
    some ((-1 : Int), ())
  else
    some (t8.1, ())
@[reducible] def laws_szPacketS_l1_p : List PE := [.val 0 (.slice 116 (tyPacket)) (.u false), .val 1 (.int .i64) (.u false), .val 5 (.int .i64) (.u false)]
def laws_szPacketS_l1_fuel (a0_1 : List TPacket) (left1_1 : Int) (i5 : Int) : Nat := ((a0_1.length : Int) - i5).toNat + 1
noncomputable def laws_szPacketS_l1 : Nat → List TPacket → Int → Int → Option (Int × Unit)
  | 0, _, _, _ => none
  | N + 1, a0_1, left1_1, i5 =>
    bif decide (i5 < (a0_1.length : Int)) then
      guardP (0 ≤ i5 ∧ i5 < a0_1.length) <|
      Option.bind (laws_szPacket (a0_1.getD i5.toNat zPacket) left1_1) fun t23 =>
      bif decide (t23.1 < (0 : Int)) then
        some ((-1 : Int), ())
      else
        laws_szPacketS_l1 N a0_1 t23.1 (IntKind.i64.wrap (i5 + (1 : Int)))
    else
      some (left1_1, ())
noncomputable def laws_szPacketS (a0 : List TPacket) (left1 : Int) : Option (Int × Unit) :=
  let t9 : Int := IntKind.i64.wrap (left1 - (a0.length : Int))
  bif decide (t9 < (0 : Int)) then
    some ((-1 : Int), ())
  else
    laws_szPacketS_l1 (laws_szPacketS_l1_fuel a0 t9 (0 : Int)) a0 t9 (0 : Int)
noncomputable def laws_szConn (a0 : TConn) (left1 : Int) : Option (Int × Unit) :=
  Option.bind (laws_szStreamS a0.2.2.2.1 left1) fun t8 =>
  bif decide (t8.1 < (0 : Int)) then
    some ((-1 : Int), ())
  else
    Option.bind (laws_szPacketS a0.2.2.2.2.2.2.2.2.2.2.2.2.2.2.2.1 t8.1) fun t14 =>
    bif decide (t14.1 < (0 : Int)) then
      some ((-1 : Int), ())
    else
      some (t14.1, ())
noncomputable def laws_szLetter (a0 : TLetter) (left1 : Int) : Option (Int × Unit) :=
  let t9 : Int := IntKind.i64.wrap (left1 - (a0.2.1.length : Int))
  bif decide (t9 < (0 : Int)) then
    some ((-1 : Int), ())
  else
    some (t9, ())
@[reducible] def laws_szLetterS_l1_p : List PE := [.val 0 (.slice 75 (tyLetter)) (.u false), .val 1 (.int .i64) (.u false), .val 5 (.int .i64) (.u false)]
def laws_szLetterS_l1_fuel (a0_1 : List TLetter) (left1_1 : Int) (i5 : Int) : Nat := ((a0_1.length : Int) - i5).toNat + 1
noncomputable def laws_szLetterS_l1 : Nat → List TLetter → Int → Int → Option (Int × Unit)
  | 0, _, _, _ => none
  | N + 1, a0_1, left1_1, i5 =>
    bif decide (i5 < (a0_1.length : Int)) then
      guardP (0 ≤ i5 ∧ i5 < a0_1.length) <|
      Option.bind (laws_szLetter (a0_1.getD i5.toNat zLetter) left1_1) fun t23 =>
      bif decide (t23.1 < (0 : Int)) then
        some ((-1 : Int), ())
      else
        laws_szLetterS_l1 N a0_1 t23.1 (IntKind.i64.wrap (i5 + (1 : Int)))
    else
      some (left1_1, ())
noncomputable def laws_szLetterS (a0 : List TLetter) (left1 : Int) : Option (Int × Unit) :=
  let t9 : Int := IntKind.i64.wrap (left1 - (a0.length : Int))
  bif decide (t9 < (0 : Int)) then
    some ((-1 : Int), ())
  else
    laws_szLetterS_l1 (laws_szLetterS_l1_fuel a0 t9 (0 : Int)) a0 t9 (0 : Int)
noncomputable def laws_szTrack (a0 : TTrack) (left1 : Int) : Option (Int × Unit) :=
  let t9 : Int := IntKind.i64.wrap (left1 - (a0.2.2.1.length : Int))
  bif decide (t9 < (0 : Int)) then
    some ((-1 : Int), ())
  else
    let t16 : Int := IntKind.i64.wrap (t9 - (a0.2.2.2.1.length : Int))
    bif decide (t16 < (0 : Int)) then
      some ((-1 : Int), ())
    else
      some (t16, ())
@[reducible] def laws_szTrackS_l1_p : List PE := [.val 0 (.slice 77 (tyTrack)) (.u false), .val 1 (.int .i64) (.u false), .val 5 (.int .i64) (.u false)]
def laws_szTrackS_l1_fuel (a0_1 : List TTrack) (left1_1 : Int) (i5 : Int) : Nat := ((a0_1.length : Int) - i5).toNat + 1
noncomputable def laws_szTrackS_l1 : Nat → List TTrack → Int → Int → Option (Int × Unit)
  | 0, _, _, _ => none
  | N + 1, a0_1, left1_1, i5 =>
    bif decide (i5 < (a0_1.length : Int)) then
      guardP (0 ≤ i5 ∧ i5 < a0_1.length) <|
      Option.bind (laws_szTrack (a0_1.getD i5.toNat zTrack) left1_1) fun t23 =>
      bif decide (t23.1 < (0 : Int)) then
        some ((-1 : Int), ())
      else
        laws_szTrackS_l1 N a0_1 t23.1 (IntKind.i64.wrap (i5 + (1 : Int)))
    else
      some (left1_1, ())
noncomputable def laws_szTrackS (a0 : List TTrack) (left1 : Int) : Option (Int × Unit) :=
  let t9 : Int := IntKind.i64.wrap (left1 - (a0.length : Int))
  bif decide (t9 < (0 : Int)) then
    some ((-1 : Int), ())
  else
    laws_szTrackS_l1 (laws_szTrackS_l1_fuel a0 t9 (0 : Int)) a0 t9 (0 : Int)
noncomputable def laws_szPair (a0 : TPair) (left1 : Int) : Option (Int × Unit) :=
  Option.bind (laws_szConn a0.1 left1) fun t8 =>
  bif decide (t8.1 < (0 : Int)) then
    some ((-1 : Int), ())
  else
    Option.bind (laws_szConn a0.2.1 t8.1) fun t14 =>
    bif decide (t14.1 < (0 : Int)) then
      some ((-1 : Int), ())
    else
      Option.bind (laws_szLetterS a0.2.2.1 t14.1) fun t20 =>
      bif decide (t20.1 < (0 : Int)) then
        some ((-1 : Int), ())
      else
        Option.bind (laws_szLetterS a0.2.2.2.1 t20.1) fun t26 =>
        bif decide (t26.1 < (0 : Int)) then
          some ((-1 : Int), ())
        else
          Option.bind (laws_szTrackS a0.2.2.2.2.1 t26.1) fun t32 =>
          bif decide (t32.1 < (0 : Int)) then
            some ((-1 : Int), ())
          else
            some (t32.1, ())
noncomputable def laws_toConf (a0 : TConf) : Option (TConf × Unit) :=
  some ((a0.1, (a0.2.1, (a0.2.2.1, (a0.2.2.2.1, (a0.2.2.2.2.1, (a0.2.2.2.2.2.1, (a0.2.2.2.2.2.2.1, (a0.2.2.2.2.2.2.2.1, ())))))))), ())
@[reducible] def laws_toIntS_l1_p : List PE := [.val 0 (.slice 3 (.int .i64)) (.u false), .val 3 (.slice 3 (.int .i64)) (.u true), .val 4 (.int .i64) (.u false)]
def laws_toIntS_l1_fuel (a0_1 : List Int) (out3 : List Int) (i4 : Int) : Nat := ((a0_1.length : Int) - i4).toNat + 1
noncomputable def laws_toIntS_l1 : Nat → List Int → List Int → Int → Option (List Int × Unit)
  | 0, _, _, _ => none
  | N + 1, a0_1, out3, i4 =>
    bif decide (i4 < (a0_1.length : Int)) then
      guardP (0 ≤ i4 ∧ i4 < a0_1.length) <|
      guardP (0 ≤ i4 ∧ i4 < out3.length) <|
      laws_toIntS_l1 N a0_1 (out3.set i4.toNat (a0_1.getD i4.toNat (0 : Int))) (IntKind.i64.wrap (i4 + (1 : Int)))
    else
      some (out3, ())
noncomputable def laws_toIntS (a0 : List Int) : Option (List Int × Unit) :=
  guardP (0 ≤ (a0.length : Int) ∧ (a0.length : Int) ≤ (a0.length : Int) ∧ (a0.length : Int) ≤ capN) <|
  let t7 : List Int := List.replicate (a0.length : Int).toNat (0 : Int)
  laws_toIntS_l1 (laws_toIntS_l1_fuel a0 t7 (0 : Int)) a0 t7 (0 : Int)
noncomputable def laws_toRing (a0 : TRing) : Option (TRing × Unit) :=
  Option.bind (laws_toIntS a0.2.2.2.1) fun t15 =>
  some ((a0.1, (a0.2.1, (a0.2.2.1, (t15.1, ())))), ())
noncomputable def laws_toRange (a0 : TRange) : Option (TRange × Unit) :=
  some ((a0.1, (a0.2.1, ())), ())
@[reducible] def laws_toRangeS_l1_p : List PE := [.val 0 (.slice 168 (tyRange)) (.u false), .val 3 (.slice 166 (tyRange)) (.u true), .val 4 (.int .i64) (.u false)]
def laws_toRangeS_l1_fuel (a0_1 : List TRange) (out3 : List TRange) (i4 : Int) : Nat := ((a0_1.length : Int) - i4).toNat + 1
noncomputable def laws_toRangeS_l1 : Nat → List TRange → List TRange → Int → Option (List TRange × Unit)
  | 0, _, _, _ => none
  | N + 1, a0_1, out3, i4 =>
    bif decide (i4 < (a0_1.length : Int)) then
      guardP (0 ≤ i4 ∧ i4 < a0_1.length) <|
      Option.bind (laws_toRange (a0_1.getD i4.toNat zRange)) fun t20 =>
      guardP (0 ≤ i4 ∧ i4 < out3.length) <|
      laws_toRangeS_l1 N a0_1 (out3.set i4.toNat t20.1) (IntKind.i64.wrap (i4 + (1 : Int)))
    else
      some (out3, ())
noncomputable def laws_toRangeS (a0 : List TRange) : Option (List TRange × Unit) :=
  guardP (0 ≤ (a0.length : Int) ∧ (a0.length : Int) ≤ (a0.length : Int) ∧ (a0.length : Int) ≤ capN) <|
  let t7 : List TRange := List.replicate (a0.length : Int).toNat zRange
  laws_toRangeS_l1 (laws_toRangeS_l1_fuel a0 t7 (0 : Int)) a0 t7 (0 : Int)
noncomputable def laws_toSender (a0 : TSender) : Option (TSenderx × Unit) :=
  Option.bind (laws_toRing a0.2.1) fun t9 =>
  Option.bind (laws_toRangeS a0.2.2.1) fun t13 =>
  Option.bind (laws_toRangeS a0.2.2.2.1) fun t17 =>
  Option.bind (laws_toRangeS a0.2.2.2.2.1) fun t21 =>
  some ((a0.1, (t9.1, (t13.1, (t17.1, (t21.1, (a0.2.2.2.2.2.1, (a0.2.2.2.2.2.2.1, (a0.2.2.2.2.2.2.2.1, (a0.2.2.2.2.2.2.2.2.1, ()))))))))), ())
noncomputable def laws_toCredit (a0 : TAllow) : Option (TAllow × Unit) :=
  some ((a0.1, (a0.2.1, (a0.2.2.1, (a0.2.2.2.1, ())))), ())
noncomputable def laws_toChunk (a0 : TLetter) : Option (TLetter × Unit) :=
  some ((a0.1, (a0.2.1, ())), ())
@[reducible] def laws_toChunkS_l1_p : List PE := [.val 0 (.slice 175 (tyLetter)) (.u false), .val 3 (.slice 176 (tyLetter)) (.u true), .val 4 (.int .i64) (.u false)]
def laws_toChunkS_l1_fuel (a0_1 : List TLetter) (out3 : List TLetter) (i4 : Int) : Nat := ((a0_1.length : Int) - i4).toNat + 1
noncomputable def laws_toChunkS_l1 : Nat → List TLetter → List TLetter → Int → Option (List TLetter × Unit)
  | 0, _, _, _ => none
  | N + 1, a0_1, out3, i4 =>
    bif decide (i4 < (a0_1.length : Int)) then
      guardP (0 ≤ i4 ∧ i4 < a0_1.length) <|
      Option.bind (laws_toChunk (a0_1.getD i4.toNat zLetter)) fun t20 =>
      guardP (0 ≤ i4 ∧ i4 < out3.length) <|
      laws_toChunkS_l1 N a0_1 (out3.set i4.toNat t20.1) (IntKind.i64.wrap (i4 + (1 : Int)))
    else
      some (out3, ())
noncomputable def laws_toChunkS (a0 : List TLetter) : Option (List TLetter × Unit) :=
  guardP (0 ≤ (a0.length : Int) ∧ (a0.length : Int) ≤ (a0.length : Int) ∧ (a0.length : Int) ≤ capN) <|
  let t7 : List TLetter := List.replicate (a0.length : Int).toNat zLetter
  laws_toChunkS_l1 (laws_toChunkS_l1_fuel a0 t7 (0 : Int)) a0 t7 (0 : Int)
noncomputable def laws_toBuffer (a0 : TBuffer) : Option (TBufferx × Unit) :=
  Option.bind (laws_toChunkS a0.2.1) fun t9 =>
  some ((a0.1, (t9.1, ())), ())
noncomputable def laws_toReceiver (a0 : TReceiver) : Option (TReceiverx × Unit) :=
  Option.bind (laws_toBuffer a0.2.1) fun t9 =>
  some ((a0.1, (t9.1, (a0.2.2.1, (a0.2.2.2.1, (a0.2.2.2.2.1, ()))))), ())
noncomputable def laws_toWindow (a0 : TWindow) : Option (TWindow × Unit) :=
  some ((a0.1, (a0.2.1, (a0.2.2.1, (a0.2.2.2.1, (a0.2.2.2.2.1, (a0.2.2.2.2.2.1, ())))))), ())
noncomputable def laws_toPriority (a0 : TPriority) : Option (TPriority × Unit) :=
  some ((a0.1, (a0.2.1, ())), ())
noncomputable def laws_toStream (a0 : TStream) : Option (TStreamx × Unit) :=
  Option.bind (laws_toSender a0.2.1) fun t9 =>
  Option.bind (laws_toCredit a0.2.2.1) fun t13 =>
  Option.bind (laws_toReceiver a0.2.2.2.1) fun t17 =>
  Option.bind (laws_toWindow a0.2.2.2.2.1) fun t21 =>
  Option.bind (laws_toPriority a0.2.2.2.2.2.1) fun t25 =>
  some ((a0.1, (t9.1, (t13.1, (t17.1, (t21.1, (t25.1, (a0.2.2.2.2.2.2.1, (a0.2.2.2.2.2.2.2.1, (a0.2.2.2.2.2.2.2.2.1, (a0.2.2.2.2.2.2.2.2.2.1, (a0.2.2.2.2.2.2.2.2.2.2.1, (a0.2.2.2.2.2.2.2.2.2.2.2.1, (a0.2.2.2.2.2.2.2.2.2.2.2.2.1, (a0.2.2.2.2.2.2.2.2.2.2.2.2.2.1, ())))))))))))))), ())
@[reducible] def laws_toStreamS_l1_p : List PE := [.val 0 (.slice 112 (tyStream)) (.u false), .val 3 (.slice 128 (tyStreamx)) (.u true), .val 4 (.int .i64) (.u false)]
def laws_toStreamS_l1_fuel (a0_1 : List TStream) (out3 : List TStreamx) (i4 : Int) : Nat := ((a0_1.length : Int) - i4).toNat + 1
noncomputable def laws_toStreamS_l1 : Nat → List TStream → List TStreamx → Int → Option (List TStreamx × Unit)
  | 0, _, _, _ => none
  | N + 1, a0_1, out3, i4 =>
    bif decide (i4 < (a0_1.length : Int)) then
      guardP (0 ≤ i4 ∧ i4 < a0_1.length) <|
      Option.bind (laws_toStream (a0_1.getD i4.toNat zStream)) fun t20 =>
      guardP (0 ≤ i4 ∧ i4 < out3.length) <|
      laws_toStreamS_l1 N a0_1 (out3.set i4.toNat t20.1) (IntKind.i64.wrap (i4 + (1 : Int)))
    else
      some (out3, ())
noncomputable def laws_toStreamS (a0 : List TStream) : Option (List TStreamx × Unit) :=
  guardP (0 ≤ (a0.length : Int) ∧ (a0.length : Int) ≤ (a0.length : Int) ∧ (a0.length : Int) ≤ capN) <|
  let t7 : List TStreamx := List.replicate (a0.length : Int).toNat zStreamx
  laws_toStreamS_l1 (laws_toStreamS_l1_fuel a0 t7 (0 : Int)) a0 t7 (0 : Int)
noncomputable def laws_toCount (a0 : TCount) : Option (TCount × Unit) :=
  some ((a0.1, (a0.2.1, (a0.2.2.1, ()))), ())
noncomputable def laws_toAllow (a0 : TAllow) : Option (TAllow × Unit) :=
  some ((a0.1, (a0.2.1, (a0.2.2.1, (a0.2.2.2.1, ())))), ())
noncomputable def laws_toFrame (a0 : TFrame) : Option (TFrame × Unit) :=
  some ((a0.1, (a0.2.1, (a0.2.2.1, (a0.2.2.2.1, (a0.2.2.2.2.1, (a0.2.2.2.2.2.1, (a0.2.2.2.2.2.2.1, (a0.2.2.2.2.2.2.2.1, (a0.2.2.2.2.2.2.2.2.1, ()))))))))), ())
@[reducible] def laws_toFrameS_l1_p : List PE := [.val 0 (.slice 152 (tyFrame)) (.u false), .val 3 (.slice 156 (tyFrame)) (.u true), .val 4 (.int .i64) (.u false)]
def laws_toFrameS_l1_fuel (a0_1 : List TFrame) (out3 : List TFrame) (i4 : Int) : Nat := ((a0_1.length : Int) - i4).toNat + 1
noncomputable def laws_toFrameS_l1 : Nat → List TFrame → List TFrame → Int → Option (List TFrame × Unit)
  | 0, _, _, _ => none
  | N + 1, a0_1, out3, i4 =>
    bif decide (i4 < (a0_1.length : Int)) then
      guardP (0 ≤ i4 ∧ i4 < a0_1.length) <|
      Option.bind (laws_toFrame (a0_1.getD i4.toNat zFrame)) fun t20 =>
      guardP (0 ≤ i4 ∧ i4 < out3.length) <|
      laws_toFrameS_l1 N a0_1 (out3.set i4.toNat t20.1) (IntKind.i64.wrap (i4 + (1 : Int)))
    else
      some (out3, ())
noncomputable def laws_toFrameS (a0 : List TFrame) : Option (List TFrame × Unit) :=
  guardP (0 ≤ (a0.length : Int) ∧ (a0.length : Int) ≤ (a0.length : Int) ∧ (a0.length : Int) ≤ capN) <|
  let t7 : List TFrame := List.replicate (a0.length : Int).toNat zFrame
  laws_toFrameS_l1 (laws_toFrameS_l1_fuel a0 t7 (0 : Int)) a0 t7 (0 : Int)
noncomputable def laws_toPacket (a0 : TPacket) : Option (TPacketx × Unit) :=
  Option.bind (laws_toFrameS a0.2.1) fun t9 =>
  some ((a0.1, (t9.1, ())), ())
@[reducible] def laws_toPacketS_l1_p : List PE := [.val 0 (.slice 116 (tyPacket)) (.u false), .val 3 (.slice 132 (tyPacketx)) (.u true), .val 4 (.int .i64) (.u false)]
def laws_toPacketS_l1_fuel (a0_1 : List TPacket) (out3 : List TPacketx) (i4 : Int) : Nat := ((a0_1.length : Int) - i4).toNat + 1
noncomputable def laws_toPacketS_l1 : Nat → List TPacket → List TPacketx → Int → Option (List TPacketx × Unit)
  | 0, _, _, _ => none
  | N + 1, a0_1, out3, i4 =>
    bif decide (i4 < (a0_1.length : Int)) then
      guardP (0 ≤ i4 ∧ i4 < a0_1.length) <|
      Option.bind (laws_toPacket (a0_1.getD i4.toNat zPacket)) fun t20 =>
      guardP (0 ≤ i4 ∧ i4 < out3.length) <|
      laws_toPacketS_l1 N a0_1 (out3.set i4.toNat t20.1) (IntKind.i64.wrap (i4 + (1 : Int)))
    else
      some (out3, ())
noncomputable def laws_toPacketS (a0 : List TPacket) : Option (List TPacketx × Unit) :=
  guardP (0 ≤ (a0.length : Int) ∧ (a0.length : Int) ≤ (a0.length : Int) ∧ (a0.length : Int) ≤ capN) <|
  let t7 : List TPacketx := List.replicate (a0.length : Int).toNat zPacketx
  laws_toPacketS_l1 (laws_toPacketS_l1_fuel a0 t7 (0 : Int)) a0 t7 (0 : Int)
noncomputable def laws_toConn (a0 : TConn) : Option (TConnx × Unit) :=
  Option.bind (laws_toConf a0.2.1) fun t9 =>
  Option.bind (laws_toConf a0.2.2.1) fun t13 =>
  Option.bind (laws_toStreamS a0.2.2.2.1) fun t17 =>
  Option.bind (laws_toCredit a0.2.2.2.2.1) fun t21 =>
  Option.bind (laws_toWindow a0.2.2.2.2.2.1) fun t25 =>
  Option.bind (laws_toCount a0.2.2.2.2.2.2.1) fun t29 =>
  Option.bind (laws_toCount a0.2.2.2.2.2.2.2.1) fun t33 =>
  Option.bind (laws_toAllow a0.2.2.2.2.2.2.2.2.1) fun t37 =>
  Option.bind (laws_toAllow a0.2.2.2.2.2.2.2.2.2.1) fun t41 =>
  Option.bind (laws_toPacketS a0.2.2.2.2.2.2.2.2.2.2.2.2.2.2.2.1) fun t60 =>
  some ((a0.1, (t9.1, (t13.1, (t17.1, (t21.1, (t25.1, (t29.1, (t33.1, (t37.1, (t41.1, (a0.2.2.2.2.2.2.2.2.2.2.1, (a0.2.2.2.2.2.2.2.2.2.2.2.1, (a0.2.2.2.2.2.2.2.2.2.2.2.2.1, (a0.2.2.2.2.2.2.2.2.2.2.2.2.2.1, (a0.2.2.2.2.2.2.2.2.2.2.2.2.2.2.1, (t60.1, (a0.2.2.2.2.2.2.2.2.2.2.2.2.2.2.2.2.1, (a0.2.2.2.2.2.2.2.2.2.2.2.2.2.2.2.2.2.1, ())))))))))))))))))), ())
noncomputable def laws_toLetter (a0 : TLetter) : Option (TLetter × Unit) :=
  some ((a0.1, (a0.2.1, ())), ())
@[reducible] def laws_toLetterS_l1_p : List PE := [.val 0 (.slice 75 (tyLetter)) (.u false), .val 3 (.slice 85 (tyLetter)) (.u true), .val 4 (.int .i64) (.u false)]
def laws_toLetterS_l1_fuel (a0_1 : List TLetter) (out3 : List TLetter) (i4 : Int) : Nat := ((a0_1.length : Int) - i4).toNat + 1
noncomputable def laws_toLetterS_l1 : Nat → List TLetter → List TLetter → Int → Option (List TLetter × Unit)
  | 0, _, _, _ => none
  | N + 1, a0_1, out3, i4 =>
    bif decide (i4 < (a0_1.length : Int)) then
      guardP (0 ≤ i4 ∧ i4 < a0_1.length) <|
      Option.bind (laws_toLetter (a0_1.getD i4.toNat zLetter)) fun t20 =>
      guardP (0 ≤ i4 ∧ i4 < out3.length) <|
      laws_toLetterS_l1 N a0_1 (out3.set i4.toNat t20.1) (IntKind.i64.wrap (i4 + (1 : Int)))
    else
      some (out3, ())
noncomputable def laws_toLetterS (a0 : List TLetter) : Option (List TLetter × Unit) :=
  guardP (0 ≤ (a0.length : Int) ∧ (a0.length : Int) ≤ (a0.length : Int) ∧ (a0.length : Int) ≤ capN) <|
  let t7 : List TLetter := List.replicate (a0.length : Int).toNat zLetter
  laws_toLetterS_l1 (laws_toLetterS_l1_fuel a0 t7 (0 : Int)) a0 t7 (0 : Int)
noncomputable def laws_toTrack (a0 : TTrack) : Option (TTrack × Unit) :=
  some ((a0.1, (a0.2.1, (a0.2.2.1, (a0.2.2.2.1, (a0.2.2.2.2.1, (a0.2.2.2.2.2.1, (a0.2.2.2.2.2.2.1, ()))))))), ())
@[reducible] def laws_toTrackS_l1_p : List PE := [.val 0 (.slice 77 (tyTrack)) (.u false), .val 3 (.slice 63 (tyTrack)) (.u true), .val 4 (.int .i64) (.u false)]
def laws_toTrackS_l1_fuel (a0_1 : List TTrack) (out3 : List TTrack) (i4 : Int) : Nat := ((a0_1.length : Int) - i4).toNat + 1
noncomputable def laws_toTrackS_l1 : Nat → List TTrack → List TTrack → Int → Option (List TTrack × Unit)
  | 0, _, _, _ => none
  | N + 1, a0_1, out3, i4 =>
    bif decide (i4 < (a0_1.length : Int)) then
      guardP (0 ≤ i4 ∧ i4 < a0_1.length) <|
      Option.bind (laws_toTrack (a0_1.getD i4.toNat zTrack)) fun t20 =>
      guardP (0 ≤ i4 ∧ i4 < out3.length) <|
      laws_toTrackS_l1 N a0_1 (out3.set i4.toNat t20.1) (IntKind.i64.wrap (i4 + (1 : Int)))
    else
      some (out3, ())
noncomputable def laws_toTrackS (a0 : List TTrack) : Option (List TTrack × Unit) :=
  guardP (0 ≤ (a0.length : Int) ∧ (a0.length : Int) ≤ (a0.length : Int) ∧ (a0.length : Int) ≤ capN) <|
  let t7 : List TTrack := List.replicate (a0.length : Int).toNat zTrack
  laws_toTrackS_l1 (laws_toTrackS_l1_fuel a0 t7 (0 : Int)) a0 t7 (0 : Int)
noncomputable def laws_toPair (a0 : TPair) : Option (TPairx × Unit) :=
  Option.bind (laws_toConn a0.1) fun t6 =>
  Option.bind (laws_toConn a0.2.1) fun t10 =>
  Option.bind (laws_toLetterS a0.2.2.1) fun t14 =>
  Option.bind (laws_toLetterS a0.2.2.2.1) fun t18 =>
  Option.bind (laws_toTrackS a0.2.2.2.2.1) fun t22 =>
  some ((t6.1, (t10.1, (t14.1, (t18.1, (t22.1, ()))))), ())
noncomputable def spec_IsPrefixOf (a0 : List UInt8) (b1 : List UInt8) : Option (Bool × Unit) :=
  let t9 : Bool := decide ((a0.length : Int) ≤ (b1.length : Int))
  guardP ((t9 = true → (0 ≤ (0 : Int) ∧ (0 : Int) ≤ (a0.length : Int) ∧ (a0.length : Int) ≤ b1.length))) <|
  some (t9 && (((b1.drop (0 : Int).toNat).take ((a0.length : Int).toNat - (0 : Int).toNat)) == a0), ())
@[reducible] def spec_FirstUnfaithful_l1_p : List PE := [.box 1 54 (tyPairx) (.u false), .val 3 (.int .i64) (.u false)]
def spec_FirstUnfaithful_l1_fuel (p1 : TPairx) (i3 : Int) : Nat := ((p1.2.2.2.2.1.length : Int) - i3).toNat + 1
noncomputable def spec_FirstUnfaithful_l1 : Nat → TPairx → Int → Option (Int × Unit)
  | 0, _, _ => none
  | N + 1, p1, i3 =>
    bif decide (i3 < (p1.2.2.2.2.1.length : Int)) then
      guardP (0 ≤ i3 ∧ i3 < p1.2.2.2.2.1.length) <|
      Option.bind (spec_IsPrefixOf (p1.2.2.2.2.1.getD i3.toNat zTrack).2.2.2.1 (p1.2.2.2.2.1.getD i3.toNat zTrack).2.2.1) fun t21 =>
      bif (!t21.1) || ((p1.2.2.2.2.1.getD i3.toNat zTrack).2.2.2.2.2.1 && ((!((p1.2.2.2.2.1.getD i3.toNat zTrack).2.2.2.1 == (p1.2.2.2.2.1.getD i3.toNat zTrack).2.2.1)) || (!(p1.2.2.2.2.1.getD i3.toNat zTrack).2.2.2.2.1))) then
        some (i3, ())
      else
        spec_FirstUnfaithful_l1 N p1 (IntKind.i64.wrap (i3 + (1 : Int)))
    else
      some ((-1 : Int), ())
noncomputable def spec_FirstUnfaithful (p0 : TPairx) : Option (Int × Unit) :=
  spec_FirstUnfaithful_l1 (spec_FirstUnfaithful_l1_fuel p0 (0 : Int)) p0 (0 : Int)
noncomputable def spec_IsFaithful (p0 : TPairx) : Option (Bool × Unit) :=
  Option.bind (spec_FirstUnfaithful p0) fun t4 =>
  some (decide (t4.1 < (0 : Int)), ())
noncomputable def stringslite_HasPrefix (s0 : List UInt8) (prefix1 : List UInt8) : Option (Bool × Unit) :=
  let t9 : Bool := decide ((s0.length : Int) ≥ (prefix1.length : Int))
  guardP ((t9 = true → (0 ≤ (0 : Int) ∧ (0 : Int) ≤ (prefix1.length : Int) ∧ (prefix1.length : Int) ≤ s0.length))) <|
  some (t9 && (((s0.drop (0 : Int).toNat).take ((prefix1.length : Int).toNat - (0 : Int).toNat)) == prefix1), ())
noncomputable def strings_HasPrefix (s0 : List UInt8) (prefix1 : List UInt8) : Option (Bool × Unit) :=
  Option.bind (stringslite_HasPrefix s0 prefix1) fun t7 =>
  some (t7.1, ())
noncomputable def impl_IsPrefixOf (a0 : List UInt8) (b1 : List UInt8) : Option (Bool × Unit) :=
  Option.bind (strings_HasPrefix b1 a0) fun t7 =>
  some (t7.1, ())
@[reducible] def impl_FirstUnfaithful_l1_p : List PE := [.val 6 (.slice 63 (tyTrack)) (.u false), .val 7 (.int .i64) (.u false), .val 8 (.int .i64) (.u false)]
def impl_FirstUnfaithful_l1_fuel (t6 : List TTrack) (t7_1 : Int) (t8 : Int) : Nat := (t7_1 - t8).toNat + 1
noncomputable def impl_FirstUnfaithful_l1 : Nat → List TTrack → Int → Int → Option (Int × Unit)
  | 0, _, _, _ => none
  | N + 1, t6, t7_1, t8 =>
    bif decide (t8 < t7_1) then
      guardP (0 ≤ t8 ∧ t8 < t6.length) <|
      Option.bind (impl_IsPrefixOf (t6.getD t8.toNat zTrack).2.2.2.1 (t6.getD t8.toNat zTrack).2.2.1) fun t17 =>
      bif (!t17.1) || ((t6.getD t8.toNat zTrack).2.2.2.2.2.1 && ((!((t6.getD t8.toNat zTrack).2.2.2.1 == (t6.getD t8.toNat zTrack).2.2.1)) || (!(t6.getD t8.toNat zTrack).2.2.2.2.1))) then
        some (t8, ())
      else
        impl_FirstUnfaithful_l1 N t6 t7_1 (IntKind.i64.wrap (t8 + (1 : Int)))
    else
      some ((-1 : Int), ())
noncomputable def impl_FirstUnfaithful (p0 : TPairx) : Option (Int × Unit) :=
  impl_FirstUnfaithful_l1 (impl_FirstUnfaithful_l1_fuel p0.2.2.2.2.1 (p0.2.2.2.2.1.length : Int) (0 : Int)) p0.2.2.2.2.1 (p0.2.2.2.2.1.length : Int) (0 : Int)
noncomputable def impl_IsFaithful (p0 : TPairx) : Option (Bool × Unit) :=
  Option.bind (impl_FirstUnfaithful p0) fun t4 =>
  some (t4.1 == (-1 : Int), ())
noncomputable def laws_eqConf (a0 : TConf) (b1 : TConf) : Option (Bool × Unit) :=
  bif a0.1 != b1.1 then
    some (false, ())
  else
    bif a0.2.1 != b1.2.1 then
      some (false, ())
    else
      bif a0.2.2.1 != b1.2.2.1 then
        some (false, ())
      else
        bif a0.2.2.2.1 != b1.2.2.2.1 then
          some (false, ())
        else
          bif a0.2.2.2.2.1 != b1.2.2.2.2.1 then
            some (false, ())
          else
            bif a0.2.2.2.2.2.1 != b1.2.2.2.2.2.1 then
              some (false, ())
            else
              bif a0.2.2.2.2.2.2.1 != b1.2.2.2.2.2.2.1 then
                some (false, ())
              else
                bif a0.2.2.2.2.2.2.2.1 != b1.2.2.2.2.2.2.2.1 then
                  some (false, ())
                else
                  some (true, ())
@[reducible] def laws_eqIntS_l1_p : List PE := [.val 0 (.slice 3 (.int .i64)) (.u false), .val 1 (.slice 3 (.int .i64)) (.u false), .val 5 (.int .i64) (.u false)]
def laws_eqIntS_l1_fuel (a0_1 : List Int) (b1_1 : List Int) (i5 : Int) : Nat := ((a0_1.length : Int) - i5).toNat + 1
noncomputable def laws_eqIntS_l1 : Nat → List Int → List Int → Int → Option (Bool × Unit)
  | 0, _, _, _ => none
  | N + 1, a0_1, b1_1, i5 =>
    bif decide (i5 < (a0_1.length : Int)) then
      guardP (0 ≤ i5 ∧ i5 < a0_1.length) <|
      guardP (0 ≤ i5 ∧ i5 < b1_1.length) <|
      bif (a0_1.getD i5.toNat (0 : Int)) != (b1_1.getD i5.toNat (0 : Int)) then
        some (false, ())
      else
        laws_eqIntS_l1 N a0_1 b1_1 (IntKind.i64.wrap (i5 + (1 : Int)))
    else
      some (true, ())
noncomputable def laws_eqIntS (a0 : List Int) (b1 : List Int) : Option (Bool × Unit) :=
  bif (a0.length : Int) != (b1.length : Int) then
    some (false, ())
  else
    laws_eqIntS_l1 (laws_eqIntS_l1_fuel a0 b1 (0 : Int)) a0 b1 (0 : Int)
noncomputable def laws_eqRing (a0 : TRing) (b1 : TRing) : Option (Bool × Unit) :=
  bif a0.1 != b1.1 then
    some (false, ())
  else
    bif a0.2.1 != b1.2.1 then
      some (false, ())
    else
      bif a0.2.2.1 != b1.2.2.1 then
        some (false, ())
      else
        Option.bind (laws_eqIntS a0.2.2.2.1 b1.2.2.2.1) fun t24 =>
        bif !t24.1 then
          some (false, ())
        else
          some (true, ())
noncomputable def laws_eqRange (a0 : TRange) (b1 : TRange) : Option (Bool × Unit) :=
  bif a0.1 != b1.1 then
    some (false, ())
  else
    bif a0.2.1 != b1.2.1 then
      some (false, ())
    else
      some (true, ())
@[reducible] def laws_eqRangeS_l1_p : List PE := [.val 0 (.slice 166 (tyRange)) (.u false), .val 1 (.slice 166 (tyRange)) (.u false), .val 5 (.int .i64) (.u false)]
def laws_eqRangeS_l1_fuel (a0_1 : List TRange) (b1_1 : List TRange) (i5 : Int) : Nat := ((a0_1.length : Int) - i5).toNat + 1
noncomputable def laws_eqRangeS_l1 : Nat → List TRange → List TRange → Int → Option (Bool × Unit)
  | 0, _, _, _ => none
  | N + 1, a0_1, b1_1, i5 =>
    bif decide (i5 < (a0_1.length : Int)) then
      guardP (0 ≤ i5 ∧ i5 < a0_1.length) <|
      guardP (0 ≤ i5 ∧ i5 < b1_1.length) <|
      Option.bind (laws_eqRange (a0_1.getD i5.toNat zRange) (b1_1.getD i5.toNat zRange)) fun t25 =>
      bif !t25.1 then
        some (false, ())
      else
        laws_eqRangeS_l1 N a0_1 b1_1 (IntKind.i64.wrap (i5 + (1 : Int)))
    else
      some (true, ())
noncomputable def laws_eqRangeS (a0 : List TRange) (b1 : List TRange) : Option (Bool × Unit) :=
  bif (a0.length : Int) != (b1.length : Int) then
    some (false, ())
  else
    laws_eqRangeS_l1 (laws_eqRangeS_l1_fuel a0 b1 (0 : Int)) a0 b1 (0 : Int)
noncomputable def laws_eqSender (a0 : TSenderx) (b1 : TSenderx) : Option (Bool × Unit) :=
  bif a0.1 != b1.1 then
    some (false, ())
  else
    Option.bind (laws_eqRing a0.2.1 b1.2.1) fun t14 =>
    bif !t14.1 then
      some (false, ())
    else
      Option.bind (laws_eqRangeS a0.2.2.1 b1.2.2.1) fun t20 =>
      bif !t20.1 then
        some (false, ())
      else
        Option.bind (laws_eqRangeS a0.2.2.2.1 b1.2.2.2.1) fun t26 =>
        bif !t26.1 then
          some (false, ())
        else
          Option.bind (laws_eqRangeS a0.2.2.2.2.1 b1.2.2.2.2.1) fun t32 =>
          bif !t32.1 then
            some (false, ())
          else
            bif a0.2.2.2.2.2.1 != b1.2.2.2.2.2.1 then
              some (false, ())
            else
              bif a0.2.2.2.2.2.2.1 != b1.2.2.2.2.2.2.1 then
                some (false, ())
              else
                bif a0.2.2.2.2.2.2.2.1 != b1.2.2.2.2.2.2.2.1 then
                  some (false, ())
                else
                  bif a0.2.2.2.2.2.2.2.2.1 != b1.2.2.2.2.2.2.2.2.1 then
                    some (false, ())
                  else
                    some (true, ())
noncomputable def laws_eqCredit (a0 : TAllow) (b1 : TAllow) : Option (Bool × Unit) :=
  bif a0.1 != b1.1 then
    some (false, ())
  else
    bif a0.2.1 != b1.2.1 then
      some (false, ())
    else
      bif a0.2.2.1 != b1.2.2.1 then
        some (false, ())
      else
        bif a0.2.2.2.1 != b1.2.2.2.1 then
          some (false, ())
        else
          some (true, ())
noncomputable def laws_eqChunk (a0 : TLetter) (b1 : TLetter) : Option (Bool × Unit) :=
  bif a0.1 != b1.1 then
    some (false, ())
  else
    bif !(a0.2.1 == b1.2.1) then
      some (false, ())
    else
      some (true, ())
@[reducible] def laws_eqChunkS_l1_p : List PE := [.val 0 (.slice 176 (tyLetter)) (.u false), .val 1 (.slice 176 (tyLetter)) (.u false), .val 5 (.int .i64) (.u false)]
def laws_eqChunkS_l1_fuel (a0_1 : List TLetter) (b1_1 : List TLetter) (i5 : Int) : Nat := ((a0_1.length : Int) - i5).toNat + 1
noncomputable def laws_eqChunkS_l1 : Nat → List TLetter → List TLetter → Int → Option (Bool × Unit)
  | 0, _, _, _ => none
  | N + 1, a0_1, b1_1, i5 =>
    bif decide (i5 < (a0_1.length : Int)) then
      guardP (0 ≤ i5 ∧ i5 < a0_1.length) <|
      guardP (0 ≤ i5 ∧ i5 < b1_1.length) <|
      Option.bind (laws_eqChunk (a0_1.getD i5.toNat zLetter) (b1_1.getD i5.toNat zLetter)) fun t25 =>
      bif !t25.1 then
        some (false, ())
      else
        laws_eqChunkS_l1 N a0_1 b1_1 (IntKind.i64.wrap (i5 + (1 : Int)))
    else
      some (true, ())
noncomputable def laws_eqChunkS (a0 : List TLetter) (b1 : List TLetter) : Option (Bool × Unit) :=
  bif (a0.length : Int) != (b1.length : Int) then
    some (false, ())
  else
    laws_eqChunkS_l1 (laws_eqChunkS_l1_fuel a0 b1 (0 : Int)) a0 b1 (0 : Int)
noncomputable def laws_eqBuffer (a0 : TBufferx) (b1 : TBufferx) : Option (Bool × Unit) :=
  bif a0.1 != b1.1 then
    some (false, ())
  else
    Option.bind (laws_eqChunkS a0.2.1 b1.2.1) fun t14 =>
    bif !t14.1 then
      some (false, ())
    else
      some (true, ())
noncomputable def laws_eqReceiver (a0 : TReceiverx) (b1 : TReceiverx) : Option (Bool × Unit) :=
  bif a0.1 != b1.1 then
    some (false, ())
  else
    Option.bind (laws_eqBuffer a0.2.1 b1.2.1) fun t14 =>
    bif !t14.1 then
      some (false, ())
    else
      bif a0.2.2.1 != b1.2.2.1 then
        some (false, ())
      else
        bif a0.2.2.2.1 != b1.2.2.2.1 then
          some (false, ())
        else
          bif a0.2.2.2.2.1 != b1.2.2.2.2.1 then
            some (false, ())
          else
            some (true, ())
noncomputable def laws_eqWindow (a0 : TWindow) (b1 : TWindow) : Option (Bool × Unit) :=
  bif a0.1 != b1.1 then
    some (false, ())
  else
    bif a0.2.1 != b1.2.1 then
      some (false, ())
    else
      bif a0.2.2.1 != b1.2.2.1 then
        some (false, ())
      else
        bif a0.2.2.2.1 != b1.2.2.2.1 then
          some (false, ())
        else
          bif a0.2.2.2.2.1 != b1.2.2.2.2.1 then
            some (false, ())
          else
            bif a0.2.2.2.2.2.1 != b1.2.2.2.2.2.1 then
              some (false, ())
            else
              some (true, ())
noncomputable def laws_eqPriority (a0 : TPriority) (b1 : TPriority) : Option (Bool × Unit) :=
  bif a0.1 != b1.1 then
    some (false, ())
  else
    bif !(a0.2.1 == b1.2.1) then
      some (false, ())
    else
      some (true, ())
noncomputable def laws_eqStream (a0 : TStreamx) (b1 : TStreamx) : Option (Bool × Unit) :=
  bif a0.1 != b1.1 then
    some (false, ())
  else
    Option.bind (laws_eqSender a0.2.1 b1.2.1) fun t14 =>
    bif !t14.1 then
      some (false, ())
    else
      Option.bind (laws_eqCredit a0.2.2.1 b1.2.2.1) fun t20 =>
      bif !t20.1 then
        some (false, ())
      else
        Option.bind (laws_eqReceiver a0.2.2.2.1 b1.2.2.2.1) fun t26 =>
        bif !t26.1 then
          some (false, ())
        else
          Option.bind (laws_eqWindow a0.2.2.2.2.1 b1.2.2.2.2.1) fun t32 =>
          bif !t32.1 then
            some (false, ())
          else
            Option.bind (laws_eqPriority a0.2.2.2.2.2.1 b1.2.2.2.2.2.1) fun t38 =>
            bif !t38.1 then
              some (false, ())
            else
              bif !(a0.2.2.2.2.2.2.1 == b1.2.2.2.2.2.2.1) then
                some (false, ())
              else
                bif !(a0.2.2.2.2.2.2.2.1 == b1.2.2.2.2.2.2.2.1) then
                  some (false, ())
                else
                  bif !(a0.2.2.2.2.2.2.2.2.1 == b1.2.2.2.2.2.2.2.2.1) then
                    some (false, ())
                  else
                    bif !(a0.2.2.2.2.2.2.2.2.2.1 == b1.2.2.2.2.2.2.2.2.2.1) then
                      some (false, ())
                    else
                      bif !(a0.2.2.2.2.2.2.2.2.2.2.1 == b1.2.2.2.2.2.2.2.2.2.2.1) then
                        some (false, ())
                      else
                        bif !(a0.2.2.2.2.2.2.2.2.2.2.2.1 == b1.2.2.2.2.2.2.2.2.2.2.2.1) then
                          some (false, ())
                        else
                          bif a0.2.2.2.2.2.2.2.2.2.2.2.2.1 != b1.2.2.2.2.2.2.2.2.2.2.2.2.1 then
                            some (false, ())
                          else
                            bif !(a0.2.2.2.2.2.2.2.2.2.2.2.2.2.1 == b1.2.2.2.2.2.2.2.2.2.2.2.2.2.1) then
                              some (false, ())
                            else
                              some (true, ())
@[reducible] def laws_eqStreamS_l1_p : List PE := [.val 0 (.slice 128 (tyStreamx)) (.u false), .val 1 (.slice 128 (tyStreamx)) (.u false), .val 5 (.int .i64) (.u false)]
def laws_eqStreamS_l1_fuel (a0_1 : List TStreamx) (b1_1 : List TStreamx) (i5 : Int) : Nat := ((a0_1.length : Int) - i5).toNat + 1
noncomputable def laws_eqStreamS_l1 : Nat → List TStreamx → List TStreamx → Int → Option (Bool × Unit)
  | 0, _, _, _ => none
  | N + 1, a0_1, b1_1, i5 =>
    bif decide (i5 < (a0_1.length : Int)) then
      guardP (0 ≤ i5 ∧ i5 < a0_1.length) <|
      guardP (0 ≤ i5 ∧ i5 < b1_1.length) <|
      Option.bind (laws_eqStream (a0_1.getD i5.toNat zStreamx) (b1_1.getD i5.toNat zStreamx)) fun t25 =>
      bif !t25.1 then
        some (false, ())
      else
        laws_eqStreamS_l1 N a0_1 b1_1 (IntKind.i64.wrap (i5 + (1 : Int)))
    else
      some (true, ())
noncomputable def laws_eqStreamS (a0 : List TStreamx) (b1 : List TStreamx) : Option (Bool × Unit) :=
  bif (a0.length : Int) != (b1.length : Int) then
    some (false, ())
  else
    laws_eqStreamS_l1 (laws_eqStreamS_l1_fuel a0 b1 (0 : Int)) a0 b1 (0 : Int)
noncomputable def laws_eqCount (a0 : TCount) (b1 : TCount) : Option (Bool × Unit) :=
  bif a0.1 != b1.1 then
    some (false, ())
  else
    bif a0.2.1 != b1.2.1 then
      some (false, ())
    else
      bif a0.2.2.1 != b1.2.2.1 then
        some (false, ())
      else
        some (true, ())
noncomputable def laws_eqAllow (a0 : TAllow) (b1 : TAllow) : Option (Bool × Unit) :=
  bif a0.1 != b1.1 then
    some (false, ())
  else
    bif a0.2.1 != b1.2.1 then
      some (false, ())
    else
      bif a0.2.2.1 != b1.2.2.1 then
        some (false, ())
      else
        bif a0.2.2.2.1 != b1.2.2.2.1 then
          some (false, ())
        else
          some (true, ())
noncomputable def laws_eqFrame (a0 : TFrame) (b1 : TFrame) : Option (Bool × Unit) :=
  bif a0.1 != b1.1 then
    some (false, ())
  else
    bif a0.2.1 != b1.2.1 then
      some (false, ())
    else
      bif a0.2.2.1 != b1.2.2.1 then
        some (false, ())
      else
        bif !(a0.2.2.2.1 == b1.2.2.2.1) then
          some (false, ())
        else
          bif !(a0.2.2.2.2.1 == b1.2.2.2.2.1) then
            some (false, ())
          else
            bif a0.2.2.2.2.2.1 != b1.2.2.2.2.2.1 then
              some (false, ())
            else
              bif a0.2.2.2.2.2.2.1 != b1.2.2.2.2.2.2.1 then
                some (false, ())
              else
                bif a0.2.2.2.2.2.2.2.1 != b1.2.2.2.2.2.2.2.1 then
                  some (false, ())
                else
                  bif !(a0.2.2.2.2.2.2.2.2.1 == b1.2.2.2.2.2.2.2.2.1) then
                    some (false, ())
                  else
                    some (true, ())
@[reducible] def laws_eqFrameS_l1_p : List PE := [.val 0 (.slice 156 (tyFrame)) (.u false), .val 1 (.slice 156 (tyFrame)) (.u false), .val 5 (.int .i64) (.u false)]
def laws_eqFrameS_l1_fuel (a0_1 : List TFrame) (b1_1 : List TFrame) (i5 : Int) : Nat := ((a0_1.length : Int) - i5).toNat + 1
noncomputable def laws_eqFrameS_l1 : Nat → List TFrame → List TFrame → Int → Option (Bool × Unit)
  | 0, _, _, _ => none
  | N + 1, a0_1, b1_1, i5 =>
    bif decide (i5 < (a0_1.length : Int)) then
      guardP (0 ≤ i5 ∧ i5 < a0_1.length) <|
      guardP (0 ≤ i5 ∧ i5 < b1_1.length) <|
      Option.bind (laws_eqFrame (a0_1.getD i5.toNat zFrame) (b1_1.getD i5.toNat zFrame)) fun t25 =>
      bif !t25.1 then
        some (false, ())
      else
        laws_eqFrameS_l1 N a0_1 b1_1 (IntKind.i64.wrap (i5 + (1 : Int)))
    else
      some (true, ())
noncomputable def laws_eqFrameS (a0 : List TFrame) (b1 : List TFrame) : Option (Bool × Unit) :=
  bif (a0.length : Int) != (b1.length : Int) then
    some (false, ())
  else
    laws_eqFrameS_l1 (laws_eqFrameS_l1_fuel a0 b1 (0 : Int)) a0 b1 (0 : Int)
noncomputable def laws_eqPacket (a0 : TPacketx) (b1 : TPacketx) : Option (Bool × Unit) :=
  bif a0.1 != b1.1 then
    some (false, ())
  else
    Option.bind (laws_eqFrameS a0.2.1 b1.2.1) fun t14 =>
    bif !t14.1 then
      some (false, ())
    else
      some (true, ())
@[reducible] def laws_eqPacketS_l1_p : List PE := [.val 0 (.slice 132 (tyPacketx)) (.u false), .val 1 (.slice 132 (tyPacketx)) (.u false), .val 5 (.int .i64) (.u false)]
def laws_eqPacketS_l1_fuel (a0_1 : List TPacketx) (b1_1 : List TPacketx) (i5 : Int) : Nat := ((a0_1.length : Int) - i5).toNat + 1
noncomputable def laws_eqPacketS_l1 : Nat → List TPacketx → List TPacketx → Int → Option (Bool × Unit)
  | 0, _, _, _ => none
  | N + 1, a0_1, b1_1, i5 =>
    bif decide (i5 < (a0_1.length : Int)) then
      guardP (0 ≤ i5 ∧ i5 < a0_1.length) <|
      guardP (0 ≤ i5 ∧ i5 < b1_1.length) <|
      Option.bind (laws_eqPacket (a0_1.getD i5.toNat zPacketx) (b1_1.getD i5.toNat zPacketx)) fun t25 =>
      bif !t25.1 then
        some (false, ())
      else
        laws_eqPacketS_l1 N a0_1 b1_1 (IntKind.i64.wrap (i5 + (1 : Int)))
    else
      some (true, ())
noncomputable def laws_eqPacketS (a0 : List TPacketx) (b1 : List TPacketx) : Option (Bool × Unit) :=
  bif (a0.length : Int) != (b1.length : Int) then
    some (false, ())
  else
    laws_eqPacketS_l1 (laws_eqPacketS_l1_fuel a0 b1 (0 : Int)) a0 b1 (0 : Int)
noncomputable def laws_eqConn (a0 : TConnx) (b1 : TConnx) : Option (Bool × Unit) :=
  bif !(a0.1 == b1.1) then
    some (false, ())
  else
    Option.bind (laws_eqConf a0.2.1 b1.2.1) fun t14 =>
    bif !t14.1 then
      some (false, ())
    else
      Option.bind (laws_eqConf a0.2.2.1 b1.2.2.1) fun t20 =>
      bif !t20.1 then
        some (false, ())
      else
        Option.bind (laws_eqStreamS a0.2.2.2.1 b1.2.2.2.1) fun t26 =>
        bif !t26.1 then
          some (false, ())
        else
          Option.bind (laws_eqCredit a0.2.2.2.2.1 b1.2.2.2.2.1) fun t32 =>
          bif !t32.1 then
            some (false, ())
          else
            Option.bind (laws_eqWindow a0.2.2.2.2.2.1 b1.2.2.2.2.2.1) fun t38 =>
            bif !t38.1 then
              some (false, ())
            else
              Option.bind (laws_eqCount a0.2.2.2.2.2.2.1 b1.2.2.2.2.2.2.1) fun t44 =>
              bif !t44.1 then
                some (false, ())
              else
                Option.bind (laws_eqCount a0.2.2.2.2.2.2.2.1 b1.2.2.2.2.2.2.2.1) fun t50 =>
                bif !t50.1 then
                  some (false, ())
                else
                  Option.bind (laws_eqAllow a0.2.2.2.2.2.2.2.2.1 b1.2.2.2.2.2.2.2.2.1) fun t56 =>
                  bif !t56.1 then
                    some (false, ())
                  else
                    Option.bind (laws_eqAllow a0.2.2.2.2.2.2.2.2.2.1 b1.2.2.2.2.2.2.2.2.2.1) fun t62 =>
                    bif !t62.1 then
                      some (false, ())
                    else
                      bif !(a0.2.2.2.2.2.2.2.2.2.2.1 == b1.2.2.2.2.2.2.2.2.2.2.1) then
                        some (false, ())
                      else
                        bif !(a0.2.2.2.2.2.2.2.2.2.2.2.1 == b1.2.2.2.2.2.2.2.2.2.2.2.1) then
                          some (false, ())
                        else
                          bif !(a0.2.2.2.2.2.2.2.2.2.2.2.2.1 == b1.2.2.2.2.2.2.2.2.2.2.2.2.1) then
                            some (false, ())
                          else
                            bif a0.2.2.2.2.2.2.2.2.2.2.2.2.2.1 != b1.2.2.2.2.2.2.2.2.2.2.2.2.2.1 then
                              some (false, ())
                            else
                              bif a0.2.2.2.2.2.2.2.2.2.2.2.2.2.2.1 != b1.2.2.2.2.2.2.2.2.2.2.2.2.2.2.1 then
                                some (false, ())
                              else
                                Option.bind (laws_eqPacketS a0.2.2.2.2.2.2.2.2.2.2.2.2.2.2.2.1 b1.2.2.2.2.2.2.2.2.2.2.2.2.2.2.2.1) fun t93 =>
                                bif !t93.1 then
                                  some (false, ())
                                else
                                  bif a0.2.2.2.2.2.2.2.2.2.2.2.2.2.2.2.2.1 != b1.2.2.2.2.2.2.2.2.2.2.2.2.2.2.2.2.1 then
                                    some (false, ())
                                  else
                                    bif a0.2.2.2.2.2.2.2.2.2.2.2.2.2.2.2.2.2.1 != b1.2.2.2.2.2.2.2.2.2.2.2.2.2.2.2.2.2.1 then
                                      some (false, ())
                                    else
                                      some (true, ())
noncomputable def laws_eqLetter (a0 : TLetter) (b1 : TLetter) : Option (Bool × Unit) :=
  bif a0.1 != b1.1 then
    some (false, ())
  else
    bif !(a0.2.1 == b1.2.1) then
      some (false, ())
    else
      some (true, ())
@[reducible] def laws_eqLetterS_l1_p : List PE := [.val 0 (.slice 85 (tyLetter)) (.u false), .val 1 (.slice 85 (tyLetter)) (.u false), .val 5 (.int .i64) (.u false)]
def laws_eqLetterS_l1_fuel (a0_1 : List TLetter) (b1_1 : List TLetter) (i5 : Int) : Nat := ((a0_1.length : Int) - i5).toNat + 1
noncomputable def laws_eqLetterS_l1 : Nat → List TLetter → List TLetter → Int → Option (Bool × Unit)
  | 0, _, _, _ => none
  | N + 1, a0_1, b1_1, i5 =>
    bif decide (i5 < (a0_1.length : Int)) then
      guardP (0 ≤ i5 ∧ i5 < a0_1.length) <|
      guardP (0 ≤ i5 ∧ i5 < b1_1.length) <|
      Option.bind (laws_eqLetter (a0_1.getD i5.toNat zLetter) (b1_1.getD i5.toNat zLetter)) fun t25 =>
      bif !t25.1 then
        some (false, ())
      else
        laws_eqLetterS_l1 N a0_1 b1_1 (IntKind.i64.wrap (i5 + (1 : Int)))
    else
      some (true, ())
noncomputable def laws_eqLetterS (a0 : List TLetter) (b1 : List TLetter) : Option (Bool × Unit) :=
  bif (a0.length : Int) != (b1.length : Int) then
    some (false, ())
  else
    laws_eqLetterS_l1 (laws_eqLetterS_l1_fuel a0 b1 (0 : Int)) a0 b1 (0 : Int)
noncomputable def laws_eqTrack (a0 : TTrack) (b1 : TTrack) : Option (Bool × Unit) :=
  bif a0.1 != b1.1 then
    some (false, ())
  else
    bif !(a0.2.1 == b1.2.1) then
      some (false, ())
    else
      bif !(a0.2.2.1 == b1.2.2.1) then
        some (false, ())
      else
        bif !(a0.2.2.2.1 == b1.2.2.2.1) then
          some (false, ())
        else
          bif !(a0.2.2.2.2.1 == b1.2.2.2.2.1) then
            some (false, ())
          else
            bif !(a0.2.2.2.2.2.1 == b1.2.2.2.2.2.1) then
              some (false, ())
            else
              bif !(a0.2.2.2.2.2.2.1 == b1.2.2.2.2.2.2.1) then
                some (false, ())
              else
                some (true, ())
@[reducible] def laws_eqTrackS_l1_p : List PE := [.val 0 (.slice 63 (tyTrack)) (.u false), .val 1 (.slice 63 (tyTrack)) (.u false), .val 5 (.int .i64) (.u false)]
def laws_eqTrackS_l1_fuel (a0_1 : List TTrack) (b1_1 : List TTrack) (i5 : Int) : Nat := ((a0_1.length : Int) - i5).toNat + 1
noncomputable def laws_eqTrackS_l1 : Nat → List TTrack → List TTrack → Int → Option (Bool × Unit)
  | 0, _, _, _ => none
  | N + 1, a0_1, b1_1, i5 =>
    bif decide (i5 < (a0_1.length : Int)) then
      guardP (0 ≤ i5 ∧ i5 < a0_1.length) <|
      guardP (0 ≤ i5 ∧ i5 < b1_1.length) <|
      Option.bind (laws_eqTrack (a0_1.getD i5.toNat zTrack) (b1_1.getD i5.toNat zTrack)) fun t25 =>
      bif !t25.1 then
        some (false, ())
      else
        laws_eqTrackS_l1 N a0_1 b1_1 (IntKind.i64.wrap (i5 + (1 : Int)))
    else
      some (true, ())
noncomputable def laws_eqTrackS (a0 : List TTrack) (b1 : List TTrack) : Option (Bool × Unit) :=
  bif (a0.length : Int) != (b1.length : Int) then
    some (false, ())
  else
    laws_eqTrackS_l1 (laws_eqTrackS_l1_fuel a0 b1 (0 : Int)) a0 b1 (0 : Int)
noncomputable def laws_eqPair (a0 : TPairx) (b1 : TPairx) : Option (Bool × Unit) :=
  Option.bind (laws_eqConn a0.1 b1.1) fun t9 =>
  bif !t9.1 then
    some (false, ())
  else
    Option.bind (laws_eqConn a0.2.1 b1.2.1) fun t15 =>
    bif !t15.1 then
      some (false, ())
    else
      Option.bind (laws_eqLetterS a0.2.2.1 b1.2.2.1) fun t21 =>
      bif !t21.1 then
        some (false, ())
      else
        Option.bind (laws_eqLetterS a0.2.2.2.1 b1.2.2.2.1) fun t27 =>
        bif !t27.1 then
          some (false, ())
        else
          Option.bind (laws_eqTrackS a0.2.2.2.2.1 b1.2.2.2.2.1) fun t33 =>
          bif !t33.1 then
            some (false, ())
          else
            some (true, ())
noncomputable def laws_FnExactIsFaithful (aP0 : TPair) : Option (Bool × Unit) :=
  Option.bind (laws_szPair aP0 (1048576 : Int)) fun t9 =>
  bif decide (t9.1 < (0 : Int)) then
    some (true, ())
  else
    Option.bind (laws_toPair aP0) fun t13 =>
    Option.bind (spec_IsFaithful t13.1) fun t14 =>
    Option.bind (laws_toPair aP0) fun t16 =>
    Option.bind (impl_IsFaithful t16.1) fun t18 =>
    bif !(t18.1 == t14.1) then
      some (false, ())
    else
      Option.bind (laws_toPair aP0) fun t24 =>
      Option.bind (laws_eqPair t16.1 t24.1) fun t25 =>
      bif !t25.1 then
        some (false, ())
      else
        some (true, ())
def tab : Tab := lookT [(3, .int .i64), (4, .bool), (9, .str), (23, tyConf), (24, .slice 112 (tyStream)), (26, tyAllow), (28, tyWindow), (30, tyCount), (32, tyAllow), (33, .slice 116 (tyPacket)), (35, tyConn), (36, .slice 75 (tyLetter)), (37, .slice 77 (tyTrack)), (39, tyPair), (42, tyConf), (43, .slice 128 (tyStreamx)), (44, tyAllow), (45, tyWindow), (46, tyCount), (47, tyAllow), (48, .slice 132 (tyPacketx)), (50, tyConnx), (51, .slice 85 (tyLetter)), (52, .slice 63 (tyTrack)), (54, tyPairx), (63, tyTrack), (75, tyLetter), (77, tyTrack), (85, tyLetter), (98, .slice 3 (.int .i64)), (100, tyRing), (101, .slice 168 (tyRange)), (103, tySender), (104, .slice 175 (tyLetter)), (106, tyBuffer), (108, tyReceiver), (110, tyPriority), (112, tyStream), (114, .slice 152 (tyFrame)), (116, tyPacket), (117, tyRing), (118, .slice 166 (tyRange)), (120, tySenderx), (121, .slice 176 (tyLetter)), (123, tyBufferx), (125, tyReceiverx), (126, tyPriority), (128, tyStreamx), (130, .slice 156 (tyFrame)), (132, tyPacketx), (152, tyFrame), (156, tyFrame), (166, tyRange), (168, tyRange), (175, tyLetter), (176, tyLetter)]
theorem tok_3 : TOK Try.prog 3 (.int .i64) := ⟨by kernel_rfl, by kernel_rfl⟩
theorem tok_4 : TOK Try.prog 4 (.bool) := ⟨by kernel_rfl, by kernel_rfl⟩
theorem tok_9 : TOK Try.prog 9 (.str) := ⟨by kernel_rfl, by kernel_rfl⟩
theorem tok_23 : TOK Try.prog 23 (tyConf) := ⟨by kernel_rfl, by kernel_rfl⟩
theorem tok_24 : TOK Try.prog 24 (.slice 112 (tyStream)) := ⟨by kernel_rfl, by kernel_rfl⟩
theorem tok_26 : TOK Try.prog 26 (tyAllow) := ⟨by kernel_rfl, by kernel_rfl⟩
theorem tok_28 : TOK Try.prog 28 (tyWindow) := ⟨by kernel_rfl, by kernel_rfl⟩
theorem tok_30 : TOK Try.prog 30 (tyCount) := ⟨by kernel_rfl, by kernel_rfl⟩
theorem tok_32 : TOK Try.prog 32 (tyAllow) := ⟨by kernel_rfl, by kernel_rfl⟩
theorem tok_33 : TOK Try.prog 33 (.slice 116 (tyPacket)) := ⟨by kernel_rfl, by kernel_rfl⟩
theorem tok_35 : TOK Try.prog 35 (tyConn) := ⟨by kernel_rfl, by kernel_rfl⟩
theorem tok_36 : TOK Try.prog 36 (.slice 75 (tyLetter)) := ⟨by kernel_rfl, by kernel_rfl⟩
theorem tok_37 : TOK Try.prog 37 (.slice 77 (tyTrack)) := ⟨by kernel_rfl, by kernel_rfl⟩
theorem tok_39 : TOK Try.prog 39 (tyPair) := ⟨by kernel_rfl, by kernel_rfl⟩
theorem tok_42 : TOK Try.prog 42 (tyConf) := ⟨by kernel_rfl, by kernel_rfl⟩
theorem tok_43 : TOK Try.prog 43 (.slice 128 (tyStreamx)) := ⟨by kernel_rfl, by kernel_rfl⟩
theorem tok_44 : TOK Try.prog 44 (tyAllow) := ⟨by kernel_rfl, by kernel_rfl⟩
theorem tok_45 : TOK Try.prog 45 (tyWindow) := ⟨by kernel_rfl, by kernel_rfl⟩
theorem tok_46 : TOK Try.prog 46 (tyCount) := ⟨by kernel_rfl, by kernel_rfl⟩
theorem tok_47 : TOK Try.prog 47 (tyAllow) := ⟨by kernel_rfl, by kernel_rfl⟩
theorem tok_48 : TOK Try.prog 48 (.slice 132 (tyPacketx)) := ⟨by kernel_rfl, by kernel_rfl⟩
theorem tok_50 : TOK Try.prog 50 (tyConnx) := ⟨by kernel_rfl, by kernel_rfl⟩
theorem tok_51 : TOK Try.prog 51 (.slice 85 (tyLetter)) := ⟨by kernel_rfl, by kernel_rfl⟩
theorem tok_52 : TOK Try.prog 52 (.slice 63 (tyTrack)) := ⟨by kernel_rfl, by kernel_rfl⟩
theorem tok_54 : TOK Try.prog 54 (tyPairx) := ⟨by kernel_rfl, by kernel_rfl⟩
theorem tok_63 : TOK Try.prog 63 (tyTrack) := ⟨by kernel_rfl, by kernel_rfl⟩
theorem tok_75 : TOK Try.prog 75 (tyLetter) := ⟨by kernel_rfl, by kernel_rfl⟩
theorem tok_77 : TOK Try.prog 77 (tyTrack) := ⟨by kernel_rfl, by kernel_rfl⟩
theorem tok_85 : TOK Try.prog 85 (tyLetter) := ⟨by kernel_rfl, by kernel_rfl⟩
theorem tok_98 : TOK Try.prog 98 (.slice 3 (.int .i64)) := ⟨by kernel_rfl, by kernel_rfl⟩
theorem tok_100 : TOK Try.prog 100 (tyRing) := ⟨by kernel_rfl, by kernel_rfl⟩
theorem tok_101 : TOK Try.prog 101 (.slice 168 (tyRange)) := ⟨by kernel_rfl, by kernel_rfl⟩
theorem tok_103 : TOK Try.prog 103 (tySender) := ⟨by kernel_rfl, by kernel_rfl⟩
theorem tok_104 : TOK Try.prog 104 (.slice 175 (tyLetter)) := ⟨by kernel_rfl, by kernel_rfl⟩
theorem tok_106 : TOK Try.prog 106 (tyBuffer) := ⟨by kernel_rfl, by kernel_rfl⟩
theorem tok_108 : TOK Try.prog 108 (tyReceiver) := ⟨by kernel_rfl, by kernel_rfl⟩
theorem tok_110 : TOK Try.prog 110 (tyPriority) := ⟨by kernel_rfl, by kernel_rfl⟩
theorem tok_112 : TOK Try.prog 112 (tyStream) := ⟨by kernel_rfl, by kernel_rfl⟩
theorem tok_114 : TOK Try.prog 114 (.slice 152 (tyFrame)) := ⟨by kernel_rfl, by kernel_rfl⟩
theorem tok_116 : TOK Try.prog 116 (tyPacket) := ⟨by kernel_rfl, by kernel_rfl⟩
theorem tok_117 : TOK Try.prog 117 (tyRing) := ⟨by kernel_rfl, by kernel_rfl⟩
theorem tok_118 : TOK Try.prog 118 (.slice 166 (tyRange)) := ⟨by kernel_rfl, by kernel_rfl⟩
theorem tok_120 : TOK Try.prog 120 (tySenderx) := ⟨by kernel_rfl, by kernel_rfl⟩
theorem tok_121 : TOK Try.prog 121 (.slice 176 (tyLetter)) := ⟨by kernel_rfl, by kernel_rfl⟩
theorem tok_123 : TOK Try.prog 123 (tyBufferx) := ⟨by kernel_rfl, by kernel_rfl⟩
theorem tok_125 : TOK Try.prog 125 (tyReceiverx) := ⟨by kernel_rfl, by kernel_rfl⟩
theorem tok_126 : TOK Try.prog 126 (tyPriority) := ⟨by kernel_rfl, by kernel_rfl⟩
theorem tok_128 : TOK Try.prog 128 (tyStreamx) := ⟨by kernel_rfl, by kernel_rfl⟩
theorem tok_130 : TOK Try.prog 130 (.slice 156 (tyFrame)) := ⟨by kernel_rfl, by kernel_rfl⟩
theorem tok_132 : TOK Try.prog 132 (tyPacketx) := ⟨by kernel_rfl, by kernel_rfl⟩
theorem tok_152 : TOK Try.prog 152 (tyFrame) := ⟨by kernel_rfl, by kernel_rfl⟩
theorem tok_156 : TOK Try.prog 156 (tyFrame) := ⟨by kernel_rfl, by kernel_rfl⟩
theorem tok_166 : TOK Try.prog 166 (tyRange) := ⟨by kernel_rfl, by kernel_rfl⟩
theorem tok_168 : TOK Try.prog 168 (tyRange) := ⟨by kernel_rfl, by kernel_rfl⟩
theorem tok_175 : TOK Try.prog 175 (tyLetter) := ⟨by kernel_rfl, by kernel_rfl⟩
theorem tok_176 : TOK Try.prog 176 (tyLetter) := ⟨by kernel_rfl, by kernel_rfl⟩
theorem tab_ok : tab.ok Try.prog := (tab_cons tok_3 (tab_cons tok_4 (tab_cons tok_9 (tab_cons tok_23 (tab_cons tok_24 (tab_cons tok_26 (tab_cons tok_28 (tab_cons tok_30 (tab_cons tok_32 (tab_cons tok_33 (tab_cons tok_35 (tab_cons tok_36 (tab_cons tok_37 (tab_cons tok_39 (tab_cons tok_42 (tab_cons tok_43 (tab_cons tok_44 (tab_cons tok_45 (tab_cons tok_46 (tab_cons tok_47 (tab_cons tok_48 (tab_cons tok_50 (tab_cons tok_51 (tab_cons tok_52 (tab_cons tok_54 (tab_cons tok_63 (tab_cons tok_75 (tab_cons tok_77 (tab_cons tok_85 (tab_cons tok_98 (tab_cons tok_100 (tab_cons tok_101 (tab_cons tok_103 (tab_cons tok_104 (tab_cons tok_106 (tab_cons tok_108 (tab_cons tok_110 (tab_cons tok_112 (tab_cons tok_114 (tab_cons tok_116 (tab_cons tok_117 (tab_cons tok_118 (tab_cons tok_120 (tab_cons tok_121 (tab_cons tok_123 (tab_cons tok_125 (tab_cons tok_126 (tab_cons tok_128 (tab_cons tok_130 (tab_cons tok_132 (tab_cons tok_152 (tab_cons tok_156 (tab_cons tok_166 (tab_cons tok_168 (tab_cons tok_175 (tab_cons tok_176 tab_nil))))))))))))))))))))))))))))))))))))))))))))))))))))))))
@[reducible] def cfg (Γ : Env) : Cfg := { τ := tab, eq := fun _ => false, Γ := Γ }
theorem cfg_ok {Γ : Env} (h : Γ.ok Try.prog) : (cfg Γ).ok Try.prog := ⟨tab_ok, (fun _ _ h => by cases h), h, by kernel_rfl⟩
@[reducible] noncomputable def e_laws_szIntS : FnE := { f := 82, args := [.slice 3 (.int .i64), .int .i64], res := [.int .i64], F := fun xs => laws_szIntS xs.1 xs.2.1 }
theorem ok_laws_szIntS : FnOK Try.prog e_laws_szIntS := by
  refine FnOK.of (e := e_laws_szIntS) (C := cfg []) (cfg_ok env_nil) Try.func82 (c := codeOf Try.f82) rfl Try.call82 (by decide)
    (.leaf) ?_ ?_
  · exact conds_leaf _ _
  · intro xs r h
    refine Eq.trans (Eq.symm ?_) h
    kernel_rfl
@[reducible] noncomputable def e_laws_szRing : FnE := { f := 70, args := [tyRing, .int .i64], res := [.int .i64], F := fun xs => laws_szRing xs.1 xs.2.1 }
theorem ok_laws_szRing : FnOK Try.prog e_laws_szRing := by
  refine FnOK.of (e := e_laws_szRing) (C := cfg [e_laws_szIntS]) (cfg_ok (env_cons ok_laws_szIntS env_nil)) Try.func70 (c := codeOf Try.f70) rfl Try.call70 (by decide)
    (.leaf) ?_ ?_
  · exact conds_leaf _ _
  · intro xs r h
    refine Eq.trans (Eq.symm ?_) h
    kernel_rfl
@[reducible] noncomputable def e_laws_szRangeS : FnE := { f := 71, args := [.slice 168 (tyRange), .int .i64], res := [.int .i64], F := fun xs => laws_szRangeS xs.1 xs.2.1 }
theorem ok_laws_szRangeS : FnOK Try.prog e_laws_szRangeS := by
  refine FnOK.of (e := e_laws_szRangeS) (C := cfg []) (cfg_ok env_nil) Try.func71 (c := codeOf Try.f71) rfl Try.call71 (by decide)
    (.leaf) ?_ ?_
  · exact conds_leaf _ _
  · intro xs r h
    refine Eq.trans (Eq.symm ?_) h
    kernel_rfl
@[reducible] noncomputable def e_laws_szSender : FnE := { f := 59, args := [tySender, .int .i64], res := [.int .i64], F := fun xs => laws_szSender xs.1 xs.2.1 }
theorem ok_laws_szSender : FnOK Try.prog e_laws_szSender := by
  refine FnOK.of (e := e_laws_szSender) (C := cfg [e_laws_szRing, e_laws_szRangeS]) (cfg_ok (env_cons ok_laws_szRing (env_cons ok_laws_szRangeS env_nil))) Try.func59 (c := codeOf Try.f59) rfl Try.call59 (by decide)
    (.leaf) ?_ ?_
  · exact conds_leaf _ _
  · intro xs r h
    refine Eq.trans (Eq.symm ?_) h
    kernel_rfl
@[reducible] noncomputable def e_laws_szChunk : FnE := { f := 90, args := [tyLetter, .int .i64], res := [.int .i64], F := fun xs => laws_szChunk xs.1 xs.2.1 }
theorem ok_laws_szChunk : FnOK Try.prog e_laws_szChunk := by
  refine FnOK.of (e := e_laws_szChunk) (C := cfg []) (cfg_ok env_nil) Try.func90 (c := codeOf Try.f90) rfl Try.call90 (by decide)
    (.leaf) ?_ ?_
  · exact conds_leaf _ _
  · intro xs r h
    refine Eq.trans (Eq.symm ?_) h
    kernel_rfl
@[reducible] noncomputable def e_laws_szChunkS : FnE := { f := 83, args := [.slice 175 (tyLetter), .int .i64], res := [.int .i64], F := fun xs => laws_szChunkS xs.1 xs.2.1 }
theorem ok_laws_szChunkS : FnOK Try.prog e_laws_szChunkS := by
  refine FnOK.of (e := e_laws_szChunkS) (C := cfg [e_laws_szChunk]) (cfg_ok (env_cons ok_laws_szChunk env_nil)) Try.func83 (c := codeOf Try.f83) rfl Try.call83 (by decide)
    ((.seq .leaf (.seq .leaf (.seq .leaf (.seq (.seq .leaf (.block (.loop laws_szChunkS_l1_p (fun N v => laws_szChunkS_l1 N v.1 v.2.1 v.2.2.1) (fun v => laws_szChunkS_l1_fuel v.1 v.2.1 v.2.2.1) (fun K1 => .leaf)))) .leaf))))) ?_ ?_
  · exact ⟨conds_leaf _ _, ⟨conds_leaf _ _, ⟨conds_leaf _ _, ⟨⟨conds_leaf _ _, ⟨fun _ => rfl, fun N => ⟨(fun v => by kernel_rfl), conds_leaf _ _⟩⟩⟩, conds_leaf _ _⟩⟩⟩⟩
  · intro xs r h
    refine Eq.trans (Eq.symm ?_) h
    kernel_rfl
@[reducible] noncomputable def e_laws_szBuffer : FnE := { f := 72, args := [tyBuffer, .int .i64], res := [.int .i64], F := fun xs => laws_szBuffer xs.1 xs.2.1 }
theorem ok_laws_szBuffer : FnOK Try.prog e_laws_szBuffer := by
  refine FnOK.of (e := e_laws_szBuffer) (C := cfg [e_laws_szChunkS]) (cfg_ok (env_cons ok_laws_szChunkS env_nil)) Try.func72 (c := codeOf Try.f72) rfl Try.call72 (by decide)
    (.leaf) ?_ ?_
  · exact conds_leaf _ _
  · intro xs r h
    refine Eq.trans (Eq.symm ?_) h
    kernel_rfl
@[reducible] noncomputable def e_laws_szReceiver : FnE := { f := 60, args := [tyReceiver, .int .i64], res := [.int .i64], F := fun xs => laws_szReceiver xs.1 xs.2.1 }
theorem ok_laws_szReceiver : FnOK Try.prog e_laws_szReceiver := by
  refine FnOK.of (e := e_laws_szReceiver) (C := cfg [e_laws_szBuffer]) (cfg_ok (env_cons ok_laws_szBuffer env_nil)) Try.func60 (c := codeOf Try.f60) rfl Try.call60 (by decide)
    (.leaf) ?_ ?_
  · exact conds_leaf _ _
  · intro xs r h
    refine Eq.trans (Eq.symm ?_) h
    kernel_rfl
@[reducible] noncomputable def e_laws_szStream : FnE := { f := 52, args := [tyStream, .int .i64], res := [.int .i64], F := fun xs => laws_szStream xs.1 xs.2.1 }
theorem ok_laws_szStream : FnOK Try.prog e_laws_szStream := by
  refine FnOK.of (e := e_laws_szStream) (C := cfg [e_laws_szSender, e_laws_szReceiver]) (cfg_ok (env_cons ok_laws_szSender (env_cons ok_laws_szReceiver env_nil))) Try.func52 (c := codeOf Try.f52) rfl Try.call52 (by decide)
    (.leaf) ?_ ?_
  · exact conds_leaf _ _
  · intro xs r h
    refine Eq.trans (Eq.symm ?_) h
    kernel_rfl
@[reducible] noncomputable def e_laws_szStreamS : FnE := { f := 29, args := [.slice 112 (tyStream), .int .i64], res := [.int .i64], F := fun xs => laws_szStreamS xs.1 xs.2.1 }
theorem ok_laws_szStreamS : FnOK Try.prog e_laws_szStreamS := by
  refine FnOK.of (e := e_laws_szStreamS) (C := cfg [e_laws_szStream]) (cfg_ok (env_cons ok_laws_szStream env_nil)) Try.func29 (c := codeOf Try.f29) rfl Try.call29 (by decide)
    ((.seq .leaf (.seq .leaf (.seq .leaf (.seq (.seq .leaf (.block (.loop laws_szStreamS_l1_p (fun N v => laws_szStreamS_l1 N v.1 v.2.1 v.2.2.1) (fun v => laws_szStreamS_l1_fuel v.1 v.2.1 v.2.2.1) (fun K1 => .leaf)))) .leaf))))) ?_ ?_
  · exact ⟨conds_leaf _ _, ⟨conds_leaf _ _, ⟨conds_leaf _ _, ⟨⟨conds_leaf _ _, ⟨fun _ => rfl, fun N => ⟨(fun v => by kernel_rfl), conds_leaf _ _⟩⟩⟩, conds_leaf _ _⟩⟩⟩⟩
  · intro xs r h
    refine Eq.trans (Eq.symm ?_) h
    kernel_rfl
@[reducible] noncomputable def e_laws_szFrame : FnE := { f := 73, args := [tyFrame, .int .i64], res := [.int .i64], F := fun xs => laws_szFrame xs.1 xs.2.1 }
theorem ok_laws_szFrame : FnOK Try.prog e_laws_szFrame := by
  refine FnOK.of (e := e_laws_szFrame) (C := cfg []) (cfg_ok env_nil) Try.func73 (c := codeOf Try.f73) rfl Try.call73 (by decide)
    (.leaf) ?_ ?_
  · exact conds_leaf _ _
  · intro xs r h
    refine Eq.trans (Eq.symm ?_) h
    kernel_rfl
@[reducible] noncomputable def e_laws_szFrameS : FnE := { f := 61, args := [.slice 152 (tyFrame), .int .i64], res := [.int .i64], F := fun xs => laws_szFrameS xs.1 xs.2.1 }
theorem ok_laws_szFrameS : FnOK Try.prog e_laws_szFrameS := by
  refine FnOK.of (e := e_laws_szFrameS) (C := cfg [e_laws_szFrame]) (cfg_ok (env_cons ok_laws_szFrame env_nil)) Try.func61 (c := codeOf Try.f61) rfl Try.call61 (by decide)
    ((.seq .leaf (.seq .leaf (.seq .leaf (.seq (.seq .leaf (.block (.loop laws_szFrameS_l1_p (fun N v => laws_szFrameS_l1 N v.1 v.2.1 v.2.2.1) (fun v => laws_szFrameS_l1_fuel v.1 v.2.1 v.2.2.1) (fun K1 => .leaf)))) .leaf))))) ?_ ?_
  · exact ⟨conds_leaf _ _, ⟨conds_leaf _ _, ⟨conds_leaf _ _, ⟨⟨conds_leaf _ _, ⟨fun _ => rfl, fun N => ⟨(fun v => by kernel_rfl), conds_leaf _ _⟩⟩⟩, conds_leaf _ _⟩⟩⟩⟩
  · intro xs r h
    refine Eq.trans (Eq.symm ?_) h
    kernel_rfl
@[reducible] noncomputable def e_laws_szPacket : FnE := { f := 53, args := [tyPacket, .int .i64], res := [.int .i64], F := fun xs => laws_szPacket xs.1 xs.2.1 }
theorem ok_laws_szPacket : FnOK Try.prog e_laws_szPacket := by
  refine FnOK.of (e := e_laws_szPacket) (C := cfg [e_laws_szFrameS]) (cfg_ok (env_cons ok_laws_szFrameS env_nil)) Try.func53 (c := codeOf Try.f53) rfl Try.call53 (by decide)
    (.leaf) ?_ ?_
  · exact conds_leaf _ _
  · intro xs r h
    refine Eq.trans (Eq.symm ?_) h
    kernel_rfl
@[reducible] noncomputable def e_laws_szPacketS : FnE := { f := 30, args := [.slice 116 (tyPacket), .int .i64], res := [.int .i64], F := fun xs => laws_szPacketS xs.1 xs.2.1 }
theorem ok_laws_szPacketS : FnOK Try.prog e_laws_szPacketS := by
  refine FnOK.of (e := e_laws_szPacketS) (C := cfg [e_laws_szPacket]) (cfg_ok (env_cons ok_laws_szPacket env_nil)) Try.func30 (c := codeOf Try.f30) rfl Try.call30 (by decide)
    ((.seq .leaf (.seq .leaf (.seq .leaf (.seq (.seq .leaf (.block (.loop laws_szPacketS_l1_p (fun N v => laws_szPacketS_l1 N v.1 v.2.1 v.2.2.1) (fun v => laws_szPacketS_l1_fuel v.1 v.2.1 v.2.2.1) (fun K1 => .leaf)))) .leaf))))) ?_ ?_
  · exact ⟨conds_leaf _ _, ⟨conds_leaf _ _, ⟨conds_leaf _ _, ⟨⟨conds_leaf _ _, ⟨fun _ => rfl, fun N => ⟨(fun v => by kernel_rfl), conds_leaf _ _⟩⟩⟩, conds_leaf _ _⟩⟩⟩⟩
  · intro xs r h
    refine Eq.trans (Eq.symm ?_) h
    kernel_rfl
@[reducible] noncomputable def e_laws_szConn : FnE := { f := 18, args := [tyConn, .int .i64], res := [.int .i64], F := fun xs => laws_szConn xs.1 xs.2.1 }
theorem ok_laws_szConn : FnOK Try.prog e_laws_szConn := by
  refine FnOK.of (e := e_laws_szConn) (C := cfg [e_laws_szStreamS, e_laws_szPacketS]) (cfg_ok (env_cons ok_laws_szStreamS (env_cons ok_laws_szPacketS env_nil))) Try.func18 (c := codeOf Try.f18) rfl Try.call18 (by decide)
    (.leaf) ?_ ?_
  · exact conds_leaf _ _
  · intro xs r h
    refine Eq.trans (Eq.symm ?_) h
    kernel_rfl
@[reducible] noncomputable def e_laws_szLetter : FnE := { f := 31, args := [tyLetter, .int .i64], res := [.int .i64], F := fun xs => laws_szLetter xs.1 xs.2.1 }
theorem ok_laws_szLetter : FnOK Try.prog e_laws_szLetter := by
  refine FnOK.of (e := e_laws_szLetter) (C := cfg []) (cfg_ok env_nil) Try.func31 (c := codeOf Try.f31) rfl Try.call31 (by decide)
    (.leaf) ?_ ?_
  · exact conds_leaf _ _
  · intro xs r h
    refine Eq.trans (Eq.symm ?_) h
    kernel_rfl
@[reducible] noncomputable def e_laws_szLetterS : FnE := { f := 19, args := [.slice 75 (tyLetter), .int .i64], res := [.int .i64], F := fun xs => laws_szLetterS xs.1 xs.2.1 }
theorem ok_laws_szLetterS : FnOK Try.prog e_laws_szLetterS := by
  refine FnOK.of (e := e_laws_szLetterS) (C := cfg [e_laws_szLetter]) (cfg_ok (env_cons ok_laws_szLetter env_nil)) Try.func19 (c := codeOf Try.f19) rfl Try.call19 (by decide)
    ((.seq .leaf (.seq .leaf (.seq .leaf (.seq (.seq .leaf (.block (.loop laws_szLetterS_l1_p (fun N v => laws_szLetterS_l1 N v.1 v.2.1 v.2.2.1) (fun v => laws_szLetterS_l1_fuel v.1 v.2.1 v.2.2.1) (fun K1 => .leaf)))) .leaf))))) ?_ ?_
  · exact ⟨conds_leaf _ _, ⟨conds_leaf _ _, ⟨conds_leaf _ _, ⟨⟨conds_leaf _ _, ⟨fun _ => rfl, fun N => ⟨(fun v => by kernel_rfl), conds_leaf _ _⟩⟩⟩, conds_leaf _ _⟩⟩⟩⟩
  · intro xs r h
    refine Eq.trans (Eq.symm ?_) h
    kernel_rfl
@[reducible] noncomputable def e_laws_szTrack : FnE := { f := 32, args := [tyTrack, .int .i64], res := [.int .i64], F := fun xs => laws_szTrack xs.1 xs.2.1 }
theorem ok_laws_szTrack : FnOK Try.prog e_laws_szTrack := by
  refine FnOK.of (e := e_laws_szTrack) (C := cfg []) (cfg_ok env_nil) Try.func32 (c := codeOf Try.f32) rfl Try.call32 (by decide)
    (.leaf) ?_ ?_
  · exact conds_leaf _ _
  · intro xs r h
    refine Eq.trans (Eq.symm ?_) h
    kernel_rfl
@[reducible] noncomputable def e_laws_szTrackS : FnE := { f := 20, args := [.slice 77 (tyTrack), .int .i64], res := [.int .i64], F := fun xs => laws_szTrackS xs.1 xs.2.1 }
theorem ok_laws_szTrackS : FnOK Try.prog e_laws_szTrackS := by
  refine FnOK.of (e := e_laws_szTrackS) (C := cfg [e_laws_szTrack]) (cfg_ok (env_cons ok_laws_szTrack env_nil)) Try.func20 (c := codeOf Try.f20) rfl Try.call20 (by decide)
    ((.seq .leaf (.seq .leaf (.seq .leaf (.seq (.seq .leaf (.block (.loop laws_szTrackS_l1_p (fun N v => laws_szTrackS_l1 N v.1 v.2.1 v.2.2.1) (fun v => laws_szTrackS_l1_fuel v.1 v.2.1 v.2.2.1) (fun K1 => .leaf)))) .leaf))))) ?_ ?_
  · exact ⟨conds_leaf _ _, ⟨conds_leaf _ _, ⟨conds_leaf _ _, ⟨⟨conds_leaf _ _, ⟨fun _ => rfl, fun N => ⟨(fun v => by kernel_rfl), conds_leaf _ _⟩⟩⟩, conds_leaf _ _⟩⟩⟩⟩
  · intro xs r h
    refine Eq.trans (Eq.symm ?_) h
    kernel_rfl
@[reducible] noncomputable def e_laws_szPair : FnE := { f := 7, args := [tyPair, .int .i64], res := [.int .i64], F := fun xs => laws_szPair xs.1 xs.2.1 }
theorem ok_laws_szPair : FnOK Try.prog e_laws_szPair := by
  refine FnOK.of (e := e_laws_szPair) (C := cfg [e_laws_szConn, e_laws_szLetterS, e_laws_szTrackS]) (cfg_ok (env_cons ok_laws_szConn (env_cons ok_laws_szLetterS (env_cons ok_laws_szTrackS env_nil)))) Try.func7 (c := codeOf Try.f7) rfl Try.call7 (by decide)
    (.leaf) ?_ ?_
  · exact conds_leaf _ _
  · intro xs r h
    refine Eq.trans (Eq.symm ?_) h
    kernel_rfl
@[reducible] noncomputable def e_laws_toConf : FnE := { f := 33, args := [tyConf], res := [tyConf], F := fun xs => laws_toConf xs.1 }
theorem ok_laws_toConf : FnOK Try.prog e_laws_toConf := by
  refine FnOK.of (e := e_laws_toConf) (C := cfg []) (cfg_ok env_nil) Try.func33 (c := codeOf Try.f33) rfl Try.call33 (by decide)
    (.leaf) ?_ ?_
  · exact conds_leaf _ _
  · intro xs r h
    refine Eq.trans (Eq.symm ?_) h
    kernel_rfl
@[reducible] noncomputable def e_laws_toIntS : FnE := { f := 84, args := [.slice 3 (.int .i64)], res := [.slice 3 (.int .i64)], F := fun xs => laws_toIntS xs.1 }
theorem ok_laws_toIntS : FnOK Try.prog e_laws_toIntS := by
  refine FnOK.of (e := e_laws_toIntS) (C := cfg []) (cfg_ok env_nil) Try.func84 (c := codeOf Try.f84) rfl Try.call84 (by decide)
    ((.seq .leaf (.seq .leaf (.seq (.seq .leaf (.block (.loop laws_toIntS_l1_p (fun N v => laws_toIntS_l1 N v.1 v.2.1 v.2.2.1) (fun v => laws_toIntS_l1_fuel v.1 v.2.1 v.2.2.1) (fun K1 => .leaf)))) .leaf)))) ?_ ?_
  · exact ⟨conds_leaf _ _, ⟨conds_leaf _ _, ⟨⟨conds_leaf _ _, ⟨fun _ => rfl, fun N => ⟨(fun v => by kernel_rfl), conds_leaf _ _⟩⟩⟩, conds_leaf _ _⟩⟩⟩
  · intro xs r h
    refine Eq.trans (Eq.symm ?_) h
    kernel_rfl
@[reducible] noncomputable def e_laws_toRing : FnE := { f := 74, args := [tyRing], res := [tyRing], F := fun xs => laws_toRing xs.1 }
theorem ok_laws_toRing : FnOK Try.prog e_laws_toRing := by
  refine FnOK.of (e := e_laws_toRing) (C := cfg [e_laws_toIntS]) (cfg_ok (env_cons ok_laws_toIntS env_nil)) Try.func74 (c := codeOf Try.f74) rfl Try.call74 (by decide)
    (.leaf) ?_ ?_
  · exact conds_leaf _ _
  · intro xs r h
    refine Eq.trans (Eq.symm ?_) h
    kernel_rfl
@[reducible] noncomputable def e_laws_toRange : FnE := { f := 85, args := [tyRange], res := [tyRange], F := fun xs => laws_toRange xs.1 }
theorem ok_laws_toRange : FnOK Try.prog e_laws_toRange := by
  refine FnOK.of (e := e_laws_toRange) (C := cfg []) (cfg_ok env_nil) Try.func85 (c := codeOf Try.f85) rfl Try.call85 (by decide)
    (.leaf) ?_ ?_
  · exact conds_leaf _ _
  · intro xs r h
    refine Eq.trans (Eq.symm ?_) h
    kernel_rfl
@[reducible] noncomputable def e_laws_toRangeS : FnE := { f := 75, args := [.slice 168 (tyRange)], res := [.slice 166 (tyRange)], F := fun xs => laws_toRangeS xs.1 }
theorem ok_laws_toRangeS : FnOK Try.prog e_laws_toRangeS := by
  refine FnOK.of (e := e_laws_toRangeS) (C := cfg [e_laws_toRange]) (cfg_ok (env_cons ok_laws_toRange env_nil)) Try.func75 (c := codeOf Try.f75) rfl Try.call75 (by decide)
    ((.seq .leaf (.seq .leaf (.seq (.seq .leaf (.block (.loop laws_toRangeS_l1_p (fun N v => laws_toRangeS_l1 N v.1 v.2.1 v.2.2.1) (fun v => laws_toRangeS_l1_fuel v.1 v.2.1 v.2.2.1) (fun K1 => .leaf)))) .leaf)))) ?_ ?_
  · exact ⟨conds_leaf _ _, ⟨conds_leaf _ _, ⟨⟨conds_leaf _ _, ⟨fun _ => rfl, fun N => ⟨(fun v => by kernel_rfl), conds_leaf _ _⟩⟩⟩, conds_leaf _ _⟩⟩⟩
  · intro xs r h
    refine Eq.trans (Eq.symm ?_) h
    kernel_rfl
@[reducible] noncomputable def e_laws_toSender : FnE := { f := 62, args := [tySender], res := [tySenderx], F := fun xs => laws_toSender xs.1 }
theorem ok_laws_toSender : FnOK Try.prog e_laws_toSender := by
  refine FnOK.of (e := e_laws_toSender) (C := cfg [e_laws_toRing, e_laws_toRangeS]) (cfg_ok (env_cons ok_laws_toRing (env_cons ok_laws_toRangeS env_nil))) Try.func62 (c := codeOf Try.f62) rfl Try.call62 (by decide)
    (.leaf) ?_ ?_
  · exact conds_leaf _ _
  · intro xs r h
    refine Eq.trans (Eq.symm ?_) h
    kernel_rfl
@[reducible] noncomputable def e_laws_toCredit : FnE := { f := 35, args := [tyAllow], res := [tyAllow], F := fun xs => laws_toCredit xs.1 }
theorem ok_laws_toCredit : FnOK Try.prog e_laws_toCredit := by
  refine FnOK.of (e := e_laws_toCredit) (C := cfg []) (cfg_ok env_nil) Try.func35 (c := codeOf Try.f35) rfl Try.call35 (by decide)
    (.leaf) ?_ ?_
  · exact conds_leaf _ _
  · intro xs r h
    refine Eq.trans (Eq.symm ?_) h
    kernel_rfl
@[reducible] noncomputable def e_laws_toChunk : FnE := { f := 91, args := [tyLetter], res := [tyLetter], F := fun xs => laws_toChunk xs.1 }
theorem ok_laws_toChunk : FnOK Try.prog e_laws_toChunk := by
  refine FnOK.of (e := e_laws_toChunk) (C := cfg []) (cfg_ok env_nil) Try.func91 (c := codeOf Try.f91) rfl Try.call91 (by decide)
    (.leaf) ?_ ?_
  · exact conds_leaf _ _
  · intro xs r h
    refine Eq.trans (Eq.symm ?_) h
    kernel_rfl
@[reducible] noncomputable def e_laws_toChunkS : FnE := { f := 86, args := [.slice 175 (tyLetter)], res := [.slice 176 (tyLetter)], F := fun xs => laws_toChunkS xs.1 }
theorem ok_laws_toChunkS : FnOK Try.prog e_laws_toChunkS := by
  refine FnOK.of (e := e_laws_toChunkS) (C := cfg [e_laws_toChunk]) (cfg_ok (env_cons ok_laws_toChunk env_nil)) Try.func86 (c := codeOf Try.f86) rfl Try.call86 (by decide)
    ((.seq .leaf (.seq .leaf (.seq (.seq .leaf (.block (.loop laws_toChunkS_l1_p (fun N v => laws_toChunkS_l1 N v.1 v.2.1 v.2.2.1) (fun v => laws_toChunkS_l1_fuel v.1 v.2.1 v.2.2.1) (fun K1 => .leaf)))) .leaf)))) ?_ ?_
  · exact ⟨conds_leaf _ _, ⟨conds_leaf _ _, ⟨⟨conds_leaf _ _, ⟨fun _ => rfl, fun N => ⟨(fun v => by kernel_rfl), conds_leaf _ _⟩⟩⟩, conds_leaf _ _⟩⟩⟩
  · intro xs r h
    refine Eq.trans (Eq.symm ?_) h
    kernel_rfl
@[reducible] noncomputable def e_laws_toBuffer : FnE := { f := 76, args := [tyBuffer], res := [tyBufferx], F := fun xs => laws_toBuffer xs.1 }
theorem ok_laws_toBuffer : FnOK Try.prog e_laws_toBuffer := by
  refine FnOK.of (e := e_laws_toBuffer) (C := cfg [e_laws_toChunkS]) (cfg_ok (env_cons ok_laws_toChunkS env_nil)) Try.func76 (c := codeOf Try.f76) rfl Try.call76 (by decide)
    (.leaf) ?_ ?_
  · exact conds_leaf _ _
  · intro xs r h
    refine Eq.trans (Eq.symm ?_) h
    kernel_rfl
@[reducible] noncomputable def e_laws_toReceiver : FnE := { f := 63, args := [tyReceiver], res := [tyReceiverx], F := fun xs => laws_toReceiver xs.1 }
theorem ok_laws_toReceiver : FnOK Try.prog e_laws_toReceiver := by
  refine FnOK.of (e := e_laws_toReceiver) (C := cfg [e_laws_toBuffer]) (cfg_ok (env_cons ok_laws_toBuffer env_nil)) Try.func63 (c := codeOf Try.f63) rfl Try.call63 (by decide)
    (.leaf) ?_ ?_
  · exact conds_leaf _ _
  · intro xs r h
    refine Eq.trans (Eq.symm ?_) h
    kernel_rfl
@[reducible] noncomputable def e_laws_toWindow : FnE := { f := 36, args := [tyWindow], res := [tyWindow], F := fun xs => laws_toWindow xs.1 }
theorem ok_laws_toWindow : FnOK Try.prog e_laws_toWindow := by
  refine FnOK.of (e := e_laws_toWindow) (C := cfg []) (cfg_ok env_nil) Try.func36 (c := codeOf Try.f36) rfl Try.call36 (by decide)
    (.leaf) ?_ ?_
  · exact conds_leaf _ _
  · intro xs r h
    refine Eq.trans (Eq.symm ?_) h
    kernel_rfl
@[reducible] noncomputable def e_laws_toPriority : FnE := { f := 64, args := [tyPriority], res := [tyPriority], F := fun xs => laws_toPriority xs.1 }
theorem ok_laws_toPriority : FnOK Try.prog e_laws_toPriority := by
  refine FnOK.of (e := e_laws_toPriority) (C := cfg []) (cfg_ok env_nil) Try.func64 (c := codeOf Try.f64) rfl Try.call64 (by decide)
    (.leaf) ?_ ?_
  · exact conds_leaf _ _
  · intro xs r h
    refine Eq.trans (Eq.symm ?_) h
    kernel_rfl
@[reducible] noncomputable def e_laws_toStream : FnE := { f := 54, args := [tyStream], res := [tyStreamx], F := fun xs => laws_toStream xs.1 }
theorem ok_laws_toStream : FnOK Try.prog e_laws_toStream := by
  refine FnOK.of (e := e_laws_toStream) (C := cfg [e_laws_toSender, e_laws_toCredit, e_laws_toReceiver, e_laws_toWindow, e_laws_toPriority]) (cfg_ok (env_cons ok_laws_toSender (env_cons ok_laws_toCredit (env_cons ok_laws_toReceiver (env_cons ok_laws_toWindow (env_cons ok_laws_toPriority env_nil)))))) Try.func54 (c := codeOf Try.f54) rfl Try.call54 (by decide)
    (.leaf) ?_ ?_
  · exact conds_leaf _ _
  · intro xs r h
    refine Eq.trans (Eq.symm ?_) h
    kernel_rfl
@[reducible] noncomputable def e_laws_toStreamS : FnE := { f := 34, args := [.slice 112 (tyStream)], res := [.slice 128 (tyStreamx)], F := fun xs => laws_toStreamS xs.1 }
theorem ok_laws_toStreamS : FnOK Try.prog e_laws_toStreamS := by
  refine FnOK.of (e := e_laws_toStreamS) (C := cfg [e_laws_toStream]) (cfg_ok (env_cons ok_laws_toStream env_nil)) Try.func34 (c := codeOf Try.f34) rfl Try.call34 (by decide)
    ((.seq .leaf (.seq .leaf (.seq (.seq .leaf (.block (.loop laws_toStreamS_l1_p (fun N v => laws_toStreamS_l1 N v.1 v.2.1 v.2.2.1) (fun v => laws_toStreamS_l1_fuel v.1 v.2.1 v.2.2.1) (fun K1 => .leaf)))) .leaf)))) ?_ ?_
  · exact ⟨conds_leaf _ _, ⟨conds_leaf _ _, ⟨⟨conds_leaf _ _, ⟨fun _ => rfl, fun N => ⟨(fun v => by kernel_rfl), conds_leaf _ _⟩⟩⟩, conds_leaf _ _⟩⟩⟩
  · intro xs r h
    refine Eq.trans (Eq.symm ?_) h
    kernel_rfl
@[reducible] noncomputable def e_laws_toCount : FnE := { f := 37, args := [tyCount], res := [tyCount], F := fun xs => laws_toCount xs.1 }
theorem ok_laws_toCount : FnOK Try.prog e_laws_toCount := by
  refine FnOK.of (e := e_laws_toCount) (C := cfg []) (cfg_ok env_nil) Try.func37 (c := codeOf Try.f37) rfl Try.call37 (by decide)
    (.leaf) ?_ ?_
  · exact conds_leaf _ _
  · intro xs r h
    refine Eq.trans (Eq.symm ?_) h
    kernel_rfl
@[reducible] noncomputable def e_laws_toAllow : FnE := { f := 38, args := [tyAllow], res := [tyAllow], F := fun xs => laws_toAllow xs.1 }
theorem ok_laws_toAllow : FnOK Try.prog e_laws_toAllow := by
  refine FnOK.of (e := e_laws_toAllow) (C := cfg []) (cfg_ok env_nil) Try.func38 (c := codeOf Try.f38) rfl Try.call38 (by decide)
    (.leaf) ?_ ?_
  · exact conds_leaf _ _
  · intro xs r h
    refine Eq.trans (Eq.symm ?_) h
    kernel_rfl
@[reducible] noncomputable def e_laws_toFrame : FnE := { f := 77, args := [tyFrame], res := [tyFrame], F := fun xs => laws_toFrame xs.1 }
theorem ok_laws_toFrame : FnOK Try.prog e_laws_toFrame := by
  refine FnOK.of (e := e_laws_toFrame) (C := cfg []) (cfg_ok env_nil) Try.func77 (c := codeOf Try.f77) rfl Try.call77 (by decide)
    (.leaf) ?_ ?_
  · exact conds_leaf _ _
  · intro xs r h
    refine Eq.trans (Eq.symm ?_) h
    kernel_rfl
@[reducible] noncomputable def e_laws_toFrameS : FnE := { f := 65, args := [.slice 152 (tyFrame)], res := [.slice 156 (tyFrame)], F := fun xs => laws_toFrameS xs.1 }
theorem ok_laws_toFrameS : FnOK Try.prog e_laws_toFrameS := by
  refine FnOK.of (e := e_laws_toFrameS) (C := cfg [e_laws_toFrame]) (cfg_ok (env_cons ok_laws_toFrame env_nil)) Try.func65 (c := codeOf Try.f65) rfl Try.call65 (by decide)
    ((.seq .leaf (.seq .leaf (.seq (.seq .leaf (.block (.loop laws_toFrameS_l1_p (fun N v => laws_toFrameS_l1 N v.1 v.2.1 v.2.2.1) (fun v => laws_toFrameS_l1_fuel v.1 v.2.1 v.2.2.1) (fun K1 => .leaf)))) .leaf)))) ?_ ?_
  · exact ⟨conds_leaf _ _, ⟨conds_leaf _ _, ⟨⟨conds_leaf _ _, ⟨fun _ => rfl, fun N => ⟨(fun v => by kernel_rfl), conds_leaf _ _⟩⟩⟩, conds_leaf _ _⟩⟩⟩
  · intro xs r h
    refine Eq.trans (Eq.symm ?_) h
    kernel_rfl
@[reducible] noncomputable def e_laws_toPacket : FnE := { f := 55, args := [tyPacket], res := [tyPacketx], F := fun xs => laws_toPacket xs.1 }
theorem ok_laws_toPacket : FnOK Try.prog e_laws_toPacket := by
  refine FnOK.of (e := e_laws_toPacket) (C := cfg [e_laws_toFrameS]) (cfg_ok (env_cons ok_laws_toFrameS env_nil)) Try.func55 (c := codeOf Try.f55) rfl Try.call55 (by decide)
    (.leaf) ?_ ?_
  · exact conds_leaf _ _
  · intro xs r h
    refine Eq.trans (Eq.symm ?_) h
    kernel_rfl
@[reducible] noncomputable def e_laws_toPacketS : FnE := { f := 39, args := [.slice 116 (tyPacket)], res := [.slice 132 (tyPacketx)], F := fun xs => laws_toPacketS xs.1 }
theorem ok_laws_toPacketS : FnOK Try.prog e_laws_toPacketS := by
  refine FnOK.of (e := e_laws_toPacketS) (C := cfg [e_laws_toPacket]) (cfg_ok (env_cons ok_laws_toPacket env_nil)) Try.func39 (c := codeOf Try.f39) rfl Try.call39 (by decide)
    ((.seq .leaf (.seq .leaf (.seq (.seq .leaf (.block (.loop laws_toPacketS_l1_p (fun N v => laws_toPacketS_l1 N v.1 v.2.1 v.2.2.1) (fun v => laws_toPacketS_l1_fuel v.1 v.2.1 v.2.2.1) (fun K1 => .leaf)))) .leaf)))) ?_ ?_
  · exact ⟨conds_leaf _ _, ⟨conds_leaf _ _, ⟨⟨conds_leaf _ _, ⟨fun _ => rfl, fun N => ⟨(fun v => by kernel_rfl), conds_leaf _ _⟩⟩⟩, conds_leaf _ _⟩⟩⟩
  · intro xs r h
    refine Eq.trans (Eq.symm ?_) h
    kernel_rfl
@[reducible] noncomputable def e_laws_toConn : FnE := { f := 21, args := [tyConn], res := [tyConnx], F := fun xs => laws_toConn xs.1 }
theorem ok_laws_toConn : FnOK Try.prog e_laws_toConn := by
  refine FnOK.of (e := e_laws_toConn) (C := cfg [e_laws_toConf, e_laws_toStreamS, e_laws_toCredit, e_laws_toWindow, e_laws_toCount, e_laws_toAllow, e_laws_toPacketS]) (cfg_ok (env_cons ok_laws_toConf (env_cons ok_laws_toStreamS (env_cons ok_laws_toCredit (env_cons ok_laws_toWindow (env_cons ok_laws_toCount (env_cons ok_laws_toAllow (env_cons ok_laws_toPacketS env_nil)))))))) Try.func21 (c := codeOf Try.f21) rfl Try.call21 (by decide)
    (.leaf) ?_ ?_
  · exact conds_leaf _ _
  · intro xs r h
    refine Eq.trans (Eq.symm ?_) h
    kernel_rfl
@[reducible] noncomputable def e_laws_toLetter : FnE := { f := 40, args := [tyLetter], res := [tyLetter], F := fun xs => laws_toLetter xs.1 }
theorem ok_laws_toLetter : FnOK Try.prog e_laws_toLetter := by
  refine FnOK.of (e := e_laws_toLetter) (C := cfg []) (cfg_ok env_nil) Try.func40 (c := codeOf Try.f40) rfl Try.call40 (by decide)
    (.leaf) ?_ ?_
  · exact conds_leaf _ _
  · intro xs r h
    refine Eq.trans (Eq.symm ?_) h
    kernel_rfl
@[reducible] noncomputable def e_laws_toLetterS : FnE := { f := 22, args := [.slice 75 (tyLetter)], res := [.slice 85 (tyLetter)], F := fun xs => laws_toLetterS xs.1 }
theorem ok_laws_toLetterS : FnOK Try.prog e_laws_toLetterS := by
  refine FnOK.of (e := e_laws_toLetterS) (C := cfg [e_laws_toLetter]) (cfg_ok (env_cons ok_laws_toLetter env_nil)) Try.func22 (c := codeOf Try.f22) rfl Try.call22 (by decide)
    ((.seq .leaf (.seq .leaf (.seq (.seq .leaf (.block (.loop laws_toLetterS_l1_p (fun N v => laws_toLetterS_l1 N v.1 v.2.1 v.2.2.1) (fun v => laws_toLetterS_l1_fuel v.1 v.2.1 v.2.2.1) (fun K1 => .leaf)))) .leaf)))) ?_ ?_
  · exact ⟨conds_leaf _ _, ⟨conds_leaf _ _, ⟨⟨conds_leaf _ _, ⟨fun _ => rfl, fun N => ⟨(fun v => by kernel_rfl), conds_leaf _ _⟩⟩⟩, conds_leaf _ _⟩⟩⟩
  · intro xs r h
    refine Eq.trans (Eq.symm ?_) h
    kernel_rfl
@[reducible] noncomputable def e_laws_toTrack : FnE := { f := 41, args := [tyTrack], res := [tyTrack], F := fun xs => laws_toTrack xs.1 }
theorem ok_laws_toTrack : FnOK Try.prog e_laws_toTrack := by
  refine FnOK.of (e := e_laws_toTrack) (C := cfg []) (cfg_ok env_nil) Try.func41 (c := codeOf Try.f41) rfl Try.call41 (by decide)
    (.leaf) ?_ ?_
  · exact conds_leaf _ _
  · intro xs r h
    refine Eq.trans (Eq.symm ?_) h
    kernel_rfl
@[reducible] noncomputable def e_laws_toTrackS : FnE := { f := 23, args := [.slice 77 (tyTrack)], res := [.slice 63 (tyTrack)], F := fun xs => laws_toTrackS xs.1 }
theorem ok_laws_toTrackS : FnOK Try.prog e_laws_toTrackS := by
  refine FnOK.of (e := e_laws_toTrackS) (C := cfg [e_laws_toTrack]) (cfg_ok (env_cons ok_laws_toTrack env_nil)) Try.func23 (c := codeOf Try.f23) rfl Try.call23 (by decide)
    ((.seq .leaf (.seq .leaf (.seq (.seq .leaf (.block (.loop laws_toTrackS_l1_p (fun N v => laws_toTrackS_l1 N v.1 v.2.1 v.2.2.1) (fun v => laws_toTrackS_l1_fuel v.1 v.2.1 v.2.2.1) (fun K1 => .leaf)))) .leaf)))) ?_ ?_
  · exact ⟨conds_leaf _ _, ⟨conds_leaf _ _, ⟨⟨conds_leaf _ _, ⟨fun _ => rfl, fun N => ⟨(fun v => by kernel_rfl), conds_leaf _ _⟩⟩⟩, conds_leaf _ _⟩⟩⟩
  · intro xs r h
    refine Eq.trans (Eq.symm ?_) h
    kernel_rfl
@[reducible] noncomputable def e_laws_toPair : FnE := { f := 9, args := [tyPair], res := [tyPairx], F := fun xs => laws_toPair xs.1 }
theorem ok_laws_toPair : FnOK Try.prog e_laws_toPair := by
  refine FnOK.of (e := e_laws_toPair) (C := cfg [e_laws_toConn, e_laws_toLetterS, e_laws_toTrackS]) (cfg_ok (env_cons ok_laws_toConn (env_cons ok_laws_toLetterS (env_cons ok_laws_toTrackS env_nil)))) Try.func9 (c := codeOf Try.f9) rfl Try.call9 (by decide)
    (.leaf) ?_ ?_
  · exact conds_leaf _ _
  · intro xs r h
    refine Eq.trans (Eq.symm ?_) h
    kernel_rfl
@[reducible] noncomputable def e_spec_IsPrefixOf : FnE := { f := 27, args := [.str, .str], res := [.bool], F := fun xs => spec_IsPrefixOf xs.1 xs.2.1 }
theorem ok_spec_IsPrefixOf : FnOK Try.prog e_spec_IsPrefixOf := by
  refine FnOK.of (e := e_spec_IsPrefixOf) (C := cfg []) (cfg_ok env_nil) Try.func27 (c := codeOf Try.f27) rfl Try.call27 (by decide)
    (.leaf) ?_ ?_
  · exact conds_leaf _ _
  · intro xs r h
    refine Eq.trans (Eq.symm ?_) h
    kernel_rfl
@[reducible] noncomputable def e_spec_FirstUnfaithful : FnE := { f := 14, args := [tyPairx], res := [.int .i64], F := fun xs => spec_FirstUnfaithful xs.1 }
theorem ok_spec_FirstUnfaithful : FnOK Try.prog e_spec_FirstUnfaithful := by
  refine FnOK.of (e := e_spec_FirstUnfaithful) (C := cfg [e_spec_IsPrefixOf]) (cfg_ok (env_cons ok_spec_IsPrefixOf env_nil)) Try.func14 (c := codeOf Try.f14) rfl Try.call14 (by decide)
    ((.seq .leaf (.seq (.seq .leaf (.block (.loop spec_FirstUnfaithful_l1_p (fun N v => spec_FirstUnfaithful_l1 N v.1 v.2.1) (fun v => spec_FirstUnfaithful_l1_fuel v.1 v.2.1) (fun K1 => .leaf)))) .leaf))) ?_ ?_
  · exact ⟨conds_leaf _ _, ⟨⟨conds_leaf _ _, ⟨fun _ => rfl, fun N => ⟨(fun v => by kernel_rfl), conds_leaf _ _⟩⟩⟩, conds_leaf _ _⟩⟩
  · intro xs r h
    refine Eq.trans (Eq.symm ?_) h
    kernel_rfl
@[reducible] noncomputable def e_spec_IsFaithful : FnE := { f := 16, args := [tyPairx], res := [.bool], F := fun xs => spec_IsFaithful xs.1 }
theorem ok_spec_IsFaithful : FnOK Try.prog e_spec_IsFaithful := by
  refine FnOK.of (e := e_spec_IsFaithful) (C := cfg [e_spec_FirstUnfaithful]) (cfg_ok (env_cons ok_spec_FirstUnfaithful env_nil)) Try.func16 (c := codeOf Try.f16) rfl Try.call16 (by decide)
    (.leaf) ?_ ?_
  · exact conds_leaf _ _
  · intro xs r h
    refine Eq.trans (Eq.symm ?_) h
    kernel_rfl
@[reducible] noncomputable def e_stringslite_HasPrefix : FnE := { f := 58, args := [.str, .str], res := [.bool], F := fun xs => stringslite_HasPrefix xs.1 xs.2.1 }
theorem ok_stringslite_HasPrefix : FnOK Try.prog e_stringslite_HasPrefix := by
  refine FnOK.of (e := e_stringslite_HasPrefix) (C := cfg []) (cfg_ok env_nil) Try.func58 (c := codeOf Try.f58) rfl Try.call58 (by decide)
    (.leaf) ?_ ?_
  · exact conds_leaf _ _
  · intro xs r h
    refine Eq.trans (Eq.symm ?_) h
    kernel_rfl
@[reducible] noncomputable def e_strings_HasPrefix : FnE := { f := 51, args := [.str, .str], res := [.bool], F := fun xs => strings_HasPrefix xs.1 xs.2.1 }
theorem ok_strings_HasPrefix : FnOK Try.prog e_strings_HasPrefix := by
  refine FnOK.of (e := e_strings_HasPrefix) (C := cfg [e_stringslite_HasPrefix]) (cfg_ok (env_cons ok_stringslite_HasPrefix env_nil)) Try.func51 (c := codeOf Try.f51) rfl Try.call51 (by decide)
    (.leaf) ?_ ?_
  · exact conds_leaf _ _
  · intro xs r h
    refine Eq.trans (Eq.symm ?_) h
    kernel_rfl
@[reducible] noncomputable def e_impl_IsPrefixOf : FnE := { f := 28, args := [.str, .str], res := [.bool], F := fun xs => impl_IsPrefixOf xs.1 xs.2.1 }
theorem ok_impl_IsPrefixOf : FnOK Try.prog e_impl_IsPrefixOf := by
  refine FnOK.of (e := e_impl_IsPrefixOf) (C := cfg [e_strings_HasPrefix]) (cfg_ok (env_cons ok_strings_HasPrefix env_nil)) Try.func28 (c := codeOf Try.f28) rfl Try.call28 (by decide)
    (.leaf) ?_ ?_
  · exact conds_leaf _ _
  · intro xs r h
    refine Eq.trans (Eq.symm ?_) h
    kernel_rfl
@[reducible] noncomputable def e_impl_FirstUnfaithful : FnE := { f := 15, args := [tyPairx], res := [.int .i64], F := fun xs => impl_FirstUnfaithful xs.1 }
theorem ok_impl_FirstUnfaithful : FnOK Try.prog e_impl_FirstUnfaithful := by
  refine FnOK.of (e := e_impl_FirstUnfaithful) (C := cfg [e_impl_IsPrefixOf]) (cfg_ok (env_cons ok_impl_IsPrefixOf env_nil)) Try.func15 (c := codeOf Try.f15) rfl Try.call15 (by decide)
    ((.seq .leaf (.seq (.seq .leaf (.block (.loop impl_FirstUnfaithful_l1_p (fun N v => impl_FirstUnfaithful_l1 N v.1 v.2.1 v.2.2.1) (fun v => impl_FirstUnfaithful_l1_fuel v.1 v.2.1 v.2.2.1) (fun K1 => .leaf)))) .leaf))) ?_ ?_
  · exact ⟨conds_leaf _ _, ⟨⟨conds_leaf _ _, ⟨fun _ => rfl, fun N => ⟨(fun v => by kernel_rfl), conds_leaf _ _⟩⟩⟩, conds_leaf _ _⟩⟩
  · intro xs r h
    refine Eq.trans (Eq.symm ?_) h
    kernel_rfl
@[reducible] noncomputable def e_impl_IsFaithful : FnE := { f := 17, args := [tyPairx], res := [.bool], F := fun xs => impl_IsFaithful xs.1 }
theorem ok_impl_IsFaithful : FnOK Try.prog e_impl_IsFaithful := by
  refine FnOK.of (e := e_impl_IsFaithful) (C := cfg [e_impl_FirstUnfaithful]) (cfg_ok (env_cons ok_impl_FirstUnfaithful env_nil)) Try.func17 (c := codeOf Try.f17) rfl Try.call17 (by decide)
    (.leaf) ?_ ?_
  · exact conds_leaf _ _
  · intro xs r h
    refine Eq.trans (Eq.symm ?_) h
    kernel_rfl
@[reducible] noncomputable def e_laws_eqConf : FnE := { f := 42, args := [tyConf, tyConf], res := [.bool], F := fun xs => laws_eqConf xs.1 xs.2.1 }
theorem ok_laws_eqConf : FnOK Try.prog e_laws_eqConf := by
  refine FnOK.of (e := e_laws_eqConf) (C := cfg []) (cfg_ok env_nil) Try.func42 (c := codeOf Try.f42) rfl Try.call42 (by decide)
    (.leaf) ?_ ?_
  · exact conds_leaf _ _
  · intro xs r h
    refine Eq.trans (Eq.symm ?_) h
    kernel_rfl
@[reducible] noncomputable def e_laws_eqIntS : FnE := { f := 87, args := [.slice 3 (.int .i64), .slice 3 (.int .i64)], res := [.bool], F := fun xs => laws_eqIntS xs.1 xs.2.1 }
theorem ok_laws_eqIntS : FnOK Try.prog e_laws_eqIntS := by
  refine FnOK.of (e := e_laws_eqIntS) (C := cfg []) (cfg_ok env_nil) Try.func87 (c := codeOf Try.f87) rfl Try.call87 (by decide)
    ((.seq .leaf (.seq .leaf (.seq (.seq .leaf (.block (.loop laws_eqIntS_l1_p (fun N v => laws_eqIntS_l1 N v.1 v.2.1 v.2.2.1) (fun v => laws_eqIntS_l1_fuel v.1 v.2.1 v.2.2.1) (fun K1 => .leaf)))) .leaf)))) ?_ ?_
  · exact ⟨conds_leaf _ _, ⟨conds_leaf _ _, ⟨⟨conds_leaf _ _, ⟨fun _ => rfl, fun N => ⟨(fun v => by kernel_rfl), conds_leaf _ _⟩⟩⟩, conds_leaf _ _⟩⟩⟩
  · intro xs r h
    refine Eq.trans (Eq.symm ?_) h
    kernel_rfl
@[reducible] noncomputable def e_laws_eqRing : FnE := { f := 78, args := [tyRing, tyRing], res := [.bool], F := fun xs => laws_eqRing xs.1 xs.2.1 }
theorem ok_laws_eqRing : FnOK Try.prog e_laws_eqRing := by
  refine FnOK.of (e := e_laws_eqRing) (C := cfg [e_laws_eqIntS]) (cfg_ok (env_cons ok_laws_eqIntS env_nil)) Try.func78 (c := codeOf Try.f78) rfl Try.call78 (by decide)
    (.leaf) ?_ ?_
  · exact conds_leaf _ _
  · intro xs r h
    refine Eq.trans (Eq.symm ?_) h
    kernel_rfl
@[reducible] noncomputable def e_laws_eqRange : FnE := { f := 88, args := [tyRange, tyRange], res := [.bool], F := fun xs => laws_eqRange xs.1 xs.2.1 }
theorem ok_laws_eqRange : FnOK Try.prog e_laws_eqRange := by
  refine FnOK.of (e := e_laws_eqRange) (C := cfg []) (cfg_ok env_nil) Try.func88 (c := codeOf Try.f88) rfl Try.call88 (by decide)
    (.leaf) ?_ ?_
  · exact conds_leaf _ _
  · intro xs r h
    refine Eq.trans (Eq.symm ?_) h
    kernel_rfl
@[reducible] noncomputable def e_laws_eqRangeS : FnE := { f := 79, args := [.slice 166 (tyRange), .slice 166 (tyRange)], res := [.bool], F := fun xs => laws_eqRangeS xs.1 xs.2.1 }
theorem ok_laws_eqRangeS : FnOK Try.prog e_laws_eqRangeS := by
  refine FnOK.of (e := e_laws_eqRangeS) (C := cfg [e_laws_eqRange]) (cfg_ok (env_cons ok_laws_eqRange env_nil)) Try.func79 (c := codeOf Try.f79) rfl Try.call79 (by decide)
    ((.seq .leaf (.seq .leaf (.seq (.seq .leaf (.block (.loop laws_eqRangeS_l1_p (fun N v => laws_eqRangeS_l1 N v.1 v.2.1 v.2.2.1) (fun v => laws_eqRangeS_l1_fuel v.1 v.2.1 v.2.2.1) (fun K1 => .leaf)))) .leaf)))) ?_ ?_
  · exact ⟨conds_leaf _ _, ⟨conds_leaf _ _, ⟨⟨conds_leaf _ _, ⟨fun _ => rfl, fun N => ⟨(fun v => by kernel_rfl), conds_leaf _ _⟩⟩⟩, conds_leaf _ _⟩⟩⟩
  · intro xs r h
    refine Eq.trans (Eq.symm ?_) h
    kernel_rfl
@[reducible] noncomputable def e_laws_eqSender : FnE := { f := 66, args := [tySenderx, tySenderx], res := [.bool], F := fun xs => laws_eqSender xs.1 xs.2.1 }
theorem ok_laws_eqSender : FnOK Try.prog e_laws_eqSender := by
  refine FnOK.of (e := e_laws_eqSender) (C := cfg [e_laws_eqRing, e_laws_eqRangeS]) (cfg_ok (env_cons ok_laws_eqRing (env_cons ok_laws_eqRangeS env_nil))) Try.func66 (c := codeOf Try.f66) rfl Try.call66 (by decide)
    (.leaf) ?_ ?_
  · exact conds_leaf _ _
  · intro xs r h
    refine Eq.trans (Eq.symm ?_) h
    kernel_rfl
@[reducible] noncomputable def e_laws_eqCredit : FnE := { f := 44, args := [tyAllow, tyAllow], res := [.bool], F := fun xs => laws_eqCredit xs.1 xs.2.1 }
theorem ok_laws_eqCredit : FnOK Try.prog e_laws_eqCredit := by
  refine FnOK.of (e := e_laws_eqCredit) (C := cfg []) (cfg_ok env_nil) Try.func44 (c := codeOf Try.f44) rfl Try.call44 (by decide)
    (.leaf) ?_ ?_
  · exact conds_leaf _ _
  · intro xs r h
    refine Eq.trans (Eq.symm ?_) h
    kernel_rfl
@[reducible] noncomputable def e_laws_eqChunk : FnE := { f := 92, args := [tyLetter, tyLetter], res := [.bool], F := fun xs => laws_eqChunk xs.1 xs.2.1 }
theorem ok_laws_eqChunk : FnOK Try.prog e_laws_eqChunk := by
  refine FnOK.of (e := e_laws_eqChunk) (C := cfg []) (cfg_ok env_nil) Try.func92 (c := codeOf Try.f92) rfl Try.call92 (by decide)
    (.leaf) ?_ ?_
  · exact conds_leaf _ _
  · intro xs r h
    refine Eq.trans (Eq.symm ?_) h
    kernel_rfl
@[reducible] noncomputable def e_laws_eqChunkS : FnE := { f := 89, args := [.slice 176 (tyLetter), .slice 176 (tyLetter)], res := [.bool], F := fun xs => laws_eqChunkS xs.1 xs.2.1 }
theorem ok_laws_eqChunkS : FnOK Try.prog e_laws_eqChunkS := by
  refine FnOK.of (e := e_laws_eqChunkS) (C := cfg [e_laws_eqChunk]) (cfg_ok (env_cons ok_laws_eqChunk env_nil)) Try.func89 (c := codeOf Try.f89) rfl Try.call89 (by decide)
    ((.seq .leaf (.seq .leaf (.seq (.seq .leaf (.block (.loop laws_eqChunkS_l1_p (fun N v => laws_eqChunkS_l1 N v.1 v.2.1 v.2.2.1) (fun v => laws_eqChunkS_l1_fuel v.1 v.2.1 v.2.2.1) (fun K1 => .leaf)))) .leaf)))) ?_ ?_
  · exact ⟨conds_leaf _ _, ⟨conds_leaf _ _, ⟨⟨conds_leaf _ _, ⟨fun _ => rfl, fun N => ⟨(fun v => by kernel_rfl), conds_leaf _ _⟩⟩⟩, conds_leaf _ _⟩⟩⟩
  · intro xs r h
    refine Eq.trans (Eq.symm ?_) h
    kernel_rfl
@[reducible] noncomputable def e_laws_eqBuffer : FnE := { f := 80, args := [tyBufferx, tyBufferx], res := [.bool], F := fun xs => laws_eqBuffer xs.1 xs.2.1 }
theorem ok_laws_eqBuffer : FnOK Try.prog e_laws_eqBuffer := by
  refine FnOK.of (e := e_laws_eqBuffer) (C := cfg [e_laws_eqChunkS]) (cfg_ok (env_cons ok_laws_eqChunkS env_nil)) Try.func80 (c := codeOf Try.f80) rfl Try.call80 (by decide)
    (.leaf) ?_ ?_
  · exact conds_leaf _ _
  · intro xs r h
    refine Eq.trans (Eq.symm ?_) h
    kernel_rfl
@[reducible] noncomputable def e_laws_eqReceiver : FnE := { f := 67, args := [tyReceiverx, tyReceiverx], res := [.bool], F := fun xs => laws_eqReceiver xs.1 xs.2.1 }
theorem ok_laws_eqReceiver : FnOK Try.prog e_laws_eqReceiver := by
  refine FnOK.of (e := e_laws_eqReceiver) (C := cfg [e_laws_eqBuffer]) (cfg_ok (env_cons ok_laws_eqBuffer env_nil)) Try.func67 (c := codeOf Try.f67) rfl Try.call67 (by decide)
    (.leaf) ?_ ?_
  · exact conds_leaf _ _
  · intro xs r h
    refine Eq.trans (Eq.symm ?_) h
    kernel_rfl
@[reducible] noncomputable def e_laws_eqWindow : FnE := { f := 45, args := [tyWindow, tyWindow], res := [.bool], F := fun xs => laws_eqWindow xs.1 xs.2.1 }
theorem ok_laws_eqWindow : FnOK Try.prog e_laws_eqWindow := by
  refine FnOK.of (e := e_laws_eqWindow) (C := cfg []) (cfg_ok env_nil) Try.func45 (c := codeOf Try.f45) rfl Try.call45 (by decide)
    (.leaf) ?_ ?_
  · exact conds_leaf _ _
  · intro xs r h
    refine Eq.trans (Eq.symm ?_) h
    kernel_rfl
@[reducible] noncomputable def e_laws_eqPriority : FnE := { f := 68, args := [tyPriority, tyPriority], res := [.bool], F := fun xs => laws_eqPriority xs.1 xs.2.1 }
theorem ok_laws_eqPriority : FnOK Try.prog e_laws_eqPriority := by
  refine FnOK.of (e := e_laws_eqPriority) (C := cfg []) (cfg_ok env_nil) Try.func68 (c := codeOf Try.f68) rfl Try.call68 (by decide)
    (.leaf) ?_ ?_
  · exact conds_leaf _ _
  · intro xs r h
    refine Eq.trans (Eq.symm ?_) h
    kernel_rfl
@[reducible] noncomputable def e_laws_eqStream : FnE := { f := 56, args := [tyStreamx, tyStreamx], res := [.bool], F := fun xs => laws_eqStream xs.1 xs.2.1 }
theorem ok_laws_eqStream : FnOK Try.prog e_laws_eqStream := by
  refine FnOK.of (e := e_laws_eqStream) (C := cfg [e_laws_eqSender, e_laws_eqCredit, e_laws_eqReceiver, e_laws_eqWindow, e_laws_eqPriority]) (cfg_ok (env_cons ok_laws_eqSender (env_cons ok_laws_eqCredit (env_cons ok_laws_eqReceiver (env_cons ok_laws_eqWindow (env_cons ok_laws_eqPriority env_nil)))))) Try.func56 (c := codeOf Try.f56) rfl Try.call56 (by decide)
    (.leaf) ?_ ?_
  · exact conds_leaf _ _
  · intro xs r h
    refine Eq.trans (Eq.symm ?_) h
    kernel_rfl
@[reducible] noncomputable def e_laws_eqStreamS : FnE := { f := 43, args := [.slice 128 (tyStreamx), .slice 128 (tyStreamx)], res := [.bool], F := fun xs => laws_eqStreamS xs.1 xs.2.1 }
theorem ok_laws_eqStreamS : FnOK Try.prog e_laws_eqStreamS := by
  refine FnOK.of (e := e_laws_eqStreamS) (C := cfg [e_laws_eqStream]) (cfg_ok (env_cons ok_laws_eqStream env_nil)) Try.func43 (c := codeOf Try.f43) rfl Try.call43 (by decide)
    ((.seq .leaf (.seq .leaf (.seq (.seq .leaf (.block (.loop laws_eqStreamS_l1_p (fun N v => laws_eqStreamS_l1 N v.1 v.2.1 v.2.2.1) (fun v => laws_eqStreamS_l1_fuel v.1 v.2.1 v.2.2.1) (fun K1 => .leaf)))) .leaf)))) ?_ ?_
  · exact ⟨conds_leaf _ _, ⟨conds_leaf _ _, ⟨⟨conds_leaf _ _, ⟨fun _ => rfl, fun N => ⟨(fun v => by kernel_rfl), conds_leaf _ _⟩⟩⟩, conds_leaf _ _⟩⟩⟩
  · intro xs r h
    refine Eq.trans (Eq.symm ?_) h
    kernel_rfl
@[reducible] noncomputable def e_laws_eqCount : FnE := { f := 46, args := [tyCount, tyCount], res := [.bool], F := fun xs => laws_eqCount xs.1 xs.2.1 }
theorem ok_laws_eqCount : FnOK Try.prog e_laws_eqCount := by
  refine FnOK.of (e := e_laws_eqCount) (C := cfg []) (cfg_ok env_nil) Try.func46 (c := codeOf Try.f46) rfl Try.call46 (by decide)
    (.leaf) ?_ ?_
  · exact conds_leaf _ _
  · intro xs r h
    refine Eq.trans (Eq.symm ?_) h
    kernel_rfl
@[reducible] noncomputable def e_laws_eqAllow : FnE := { f := 47, args := [tyAllow, tyAllow], res := [.bool], F := fun xs => laws_eqAllow xs.1 xs.2.1 }
theorem ok_laws_eqAllow : FnOK Try.prog e_laws_eqAllow := by
  refine FnOK.of (e := e_laws_eqAllow) (C := cfg []) (cfg_ok env_nil) Try.func47 (c := codeOf Try.f47) rfl Try.call47 (by decide)
    (.leaf) ?_ ?_
  · exact conds_leaf _ _
  · intro xs r h
    refine Eq.trans (Eq.symm ?_) h
    kernel_rfl
@[reducible] noncomputable def e_laws_eqFrame : FnE := { f := 81, args := [tyFrame, tyFrame], res := [.bool], F := fun xs => laws_eqFrame xs.1 xs.2.1 }
theorem ok_laws_eqFrame : FnOK Try.prog e_laws_eqFrame := by
  refine FnOK.of (e := e_laws_eqFrame) (C := cfg []) (cfg_ok env_nil) Try.func81 (c := codeOf Try.f81) rfl Try.call81 (by decide)
    (.leaf) ?_ ?_
  · exact conds_leaf _ _
  · intro xs r h
    refine Eq.trans (Eq.symm ?_) h
    kernel_rfl
@[reducible] noncomputable def e_laws_eqFrameS : FnE := { f := 69, args := [.slice 156 (tyFrame), .slice 156 (tyFrame)], res := [.bool], F := fun xs => laws_eqFrameS xs.1 xs.2.1 }
theorem ok_laws_eqFrameS : FnOK Try.prog e_laws_eqFrameS := by
  refine FnOK.of (e := e_laws_eqFrameS) (C := cfg [e_laws_eqFrame]) (cfg_ok (env_cons ok_laws_eqFrame env_nil)) Try.func69 (c := codeOf Try.f69) rfl Try.call69 (by decide)
    ((.seq .leaf (.seq .leaf (.seq (.seq .leaf (.block (.loop laws_eqFrameS_l1_p (fun N v => laws_eqFrameS_l1 N v.1 v.2.1 v.2.2.1) (fun v => laws_eqFrameS_l1_fuel v.1 v.2.1 v.2.2.1) (fun K1 => .leaf)))) .leaf)))) ?_ ?_
  · exact ⟨conds_leaf _ _, ⟨conds_leaf _ _, ⟨⟨conds_leaf _ _, ⟨fun _ => rfl, fun N => ⟨(fun v => by kernel_rfl), conds_leaf _ _⟩⟩⟩, conds_leaf _ _⟩⟩⟩
  · intro xs r h
    refine Eq.trans (Eq.symm ?_) h
    kernel_rfl
@[reducible] noncomputable def e_laws_eqPacket : FnE := { f := 57, args := [tyPacketx, tyPacketx], res := [.bool], F := fun xs => laws_eqPacket xs.1 xs.2.1 }
theorem ok_laws_eqPacket : FnOK Try.prog e_laws_eqPacket := by
  refine FnOK.of (e := e_laws_eqPacket) (C := cfg [e_laws_eqFrameS]) (cfg_ok (env_cons ok_laws_eqFrameS env_nil)) Try.func57 (c := codeOf Try.f57) rfl Try.call57 (by decide)
    (.leaf) ?_ ?_
  · exact conds_leaf _ _
  · intro xs r h
    refine Eq.trans (Eq.symm ?_) h
    kernel_rfl
@[reducible] noncomputable def e_laws_eqPacketS : FnE := { f := 48, args := [.slice 132 (tyPacketx), .slice 132 (tyPacketx)], res := [.bool], F := fun xs => laws_eqPacketS xs.1 xs.2.1 }
theorem ok_laws_eqPacketS : FnOK Try.prog e_laws_eqPacketS := by
  refine FnOK.of (e := e_laws_eqPacketS) (C := cfg [e_laws_eqPacket]) (cfg_ok (env_cons ok_laws_eqPacket env_nil)) Try.func48 (c := codeOf Try.f48) rfl Try.call48 (by decide)
    ((.seq .leaf (.seq .leaf (.seq (.seq .leaf (.block (.loop laws_eqPacketS_l1_p (fun N v => laws_eqPacketS_l1 N v.1 v.2.1 v.2.2.1) (fun v => laws_eqPacketS_l1_fuel v.1 v.2.1 v.2.2.1) (fun K1 => .leaf)))) .leaf)))) ?_ ?_
  · exact ⟨conds_leaf _ _, ⟨conds_leaf _ _, ⟨⟨conds_leaf _ _, ⟨fun _ => rfl, fun N => ⟨(fun v => by kernel_rfl), conds_leaf _ _⟩⟩⟩, conds_leaf _ _⟩⟩⟩
  · intro xs r h
    refine Eq.trans (Eq.symm ?_) h
    kernel_rfl
@[reducible] noncomputable def e_laws_eqConn : FnE := { f := 24, args := [tyConnx, tyConnx], res := [.bool], F := fun xs => laws_eqConn xs.1 xs.2.1 }
theorem ok_laws_eqConn : FnOK Try.prog e_laws_eqConn := by
  refine FnOK.of (e := e_laws_eqConn) (C := cfg [e_laws_eqConf, e_laws_eqStreamS, e_laws_eqCredit, e_laws_eqWindow, e_laws_eqCount, e_laws_eqAllow, e_laws_eqPacketS]) (cfg_ok (env_cons ok_laws_eqConf (env_cons ok_laws_eqStreamS (env_cons ok_laws_eqCredit (env_cons ok_laws_eqWindow (env_cons ok_laws_eqCount (env_cons ok_laws_eqAllow (env_cons ok_laws_eqPacketS env_nil)))))))) Try.func24 (c := codeOf Try.f24) rfl Try.call24 (by decide)
    (.leaf) ?_ ?_
  · exact conds_leaf _ _
  · intro xs r h
    refine Eq.trans (Eq.symm ?_) h
    kernel_rfl
@[reducible] noncomputable def e_laws_eqLetter : FnE := { f := 49, args := [tyLetter, tyLetter], res := [.bool], F := fun xs => laws_eqLetter xs.1 xs.2.1 }
theorem ok_laws_eqLetter : FnOK Try.prog e_laws_eqLetter := by
  refine FnOK.of (e := e_laws_eqLetter) (C := cfg []) (cfg_ok env_nil) Try.func49 (c := codeOf Try.f49) rfl Try.call49 (by decide)
    (.leaf) ?_ ?_
  · exact conds_leaf _ _
  · intro xs r h
    refine Eq.trans (Eq.symm ?_) h
    kernel_rfl
@[reducible] noncomputable def e_laws_eqLetterS : FnE := { f := 25, args := [.slice 85 (tyLetter), .slice 85 (tyLetter)], res := [.bool], F := fun xs => laws_eqLetterS xs.1 xs.2.1 }
theorem ok_laws_eqLetterS : FnOK Try.prog e_laws_eqLetterS := by
  refine FnOK.of (e := e_laws_eqLetterS) (C := cfg [e_laws_eqLetter]) (cfg_ok (env_cons ok_laws_eqLetter env_nil)) Try.func25 (c := codeOf Try.f25) rfl Try.call25 (by decide)
    ((.seq .leaf (.seq .leaf (.seq (.seq .leaf (.block (.loop laws_eqLetterS_l1_p (fun N v => laws_eqLetterS_l1 N v.1 v.2.1 v.2.2.1) (fun v => laws_eqLetterS_l1_fuel v.1 v.2.1 v.2.2.1) (fun K1 => .leaf)))) .leaf)))) ?_ ?_
  · exact ⟨conds_leaf _ _, ⟨conds_leaf _ _, ⟨⟨conds_leaf _ _, ⟨fun _ => rfl, fun N => ⟨(fun v => by kernel_rfl), conds_leaf _ _⟩⟩⟩, conds_leaf _ _⟩⟩⟩
  · intro xs r h
    refine Eq.trans (Eq.symm ?_) h
    kernel_rfl
@[reducible] noncomputable def e_laws_eqTrack : FnE := { f := 50, args := [tyTrack, tyTrack], res := [.bool], F := fun xs => laws_eqTrack xs.1 xs.2.1 }
theorem ok_laws_eqTrack : FnOK Try.prog e_laws_eqTrack := by
  refine FnOK.of (e := e_laws_eqTrack) (C := cfg []) (cfg_ok env_nil) Try.func50 (c := codeOf Try.f50) rfl Try.call50 (by decide)
    (.leaf) ?_ ?_
  · exact conds_leaf _ _
  · intro xs r h
    refine Eq.trans (Eq.symm ?_) h
    kernel_rfl
@[reducible] noncomputable def e_laws_eqTrackS : FnE := { f := 26, args := [.slice 63 (tyTrack), .slice 63 (tyTrack)], res := [.bool], F := fun xs => laws_eqTrackS xs.1 xs.2.1 }
theorem ok_laws_eqTrackS : FnOK Try.prog e_laws_eqTrackS := by
  refine FnOK.of (e := e_laws_eqTrackS) (C := cfg [e_laws_eqTrack]) (cfg_ok (env_cons ok_laws_eqTrack env_nil)) Try.func26 (c := codeOf Try.f26) rfl Try.call26 (by decide)
    ((.seq .leaf (.seq .leaf (.seq (.seq .leaf (.block (.loop laws_eqTrackS_l1_p (fun N v => laws_eqTrackS_l1 N v.1 v.2.1 v.2.2.1) (fun v => laws_eqTrackS_l1_fuel v.1 v.2.1 v.2.2.1) (fun K1 => .leaf)))) .leaf)))) ?_ ?_
  · exact ⟨conds_leaf _ _, ⟨conds_leaf _ _, ⟨⟨conds_leaf _ _, ⟨fun _ => rfl, fun N => ⟨(fun v => by kernel_rfl), conds_leaf _ _⟩⟩⟩, conds_leaf _ _⟩⟩⟩
  · intro xs r h
    refine Eq.trans (Eq.symm ?_) h
    kernel_rfl
@[reducible] noncomputable def e_laws_eqPair : FnE := { f := 11, args := [tyPairx, tyPairx], res := [.bool], F := fun xs => laws_eqPair xs.1 xs.2.1 }
theorem ok_laws_eqPair : FnOK Try.prog e_laws_eqPair := by
  refine FnOK.of (e := e_laws_eqPair) (C := cfg [e_laws_eqConn, e_laws_eqLetterS, e_laws_eqTrackS]) (cfg_ok (env_cons ok_laws_eqConn (env_cons ok_laws_eqLetterS (env_cons ok_laws_eqTrackS env_nil)))) Try.func11 (c := codeOf Try.f11) rfl Try.call11 (by decide)
    (.leaf) ?_ ?_
  · exact conds_leaf _ _
  · intro xs r h
    refine Eq.trans (Eq.symm ?_) h
    kernel_rfl
@[reducible] noncomputable def e_laws_FnExactIsFaithful : FnE := { f := 6, args := [tyPair], res := [.bool], F := fun xs => laws_FnExactIsFaithful xs.1 }
theorem ok_laws_FnExactIsFaithful : FnOK Try.prog e_laws_FnExactIsFaithful := by
  refine FnOK.of (e := e_laws_FnExactIsFaithful) (C := cfg [e_laws_szPair, e_laws_toPair, e_spec_IsFaithful, e_impl_IsFaithful, e_laws_eqPair]) (cfg_ok (env_cons ok_laws_szPair (env_cons ok_laws_toPair (env_cons ok_spec_IsFaithful (env_cons ok_impl_IsFaithful (env_cons ok_laws_eqPair env_nil)))))) Try.func6 (c := codeOf Try.f6) rfl Try.call6 (by decide)
    (.leaf) ?_ ?_
  · exact conds_leaf _ _
  · intro xs r h
    refine Eq.trans (Eq.symm ?_) h
    kernel_rfl
end Go.Proofs.Ytckmkhiiobonmaa

/- FnExactTrackLines: what the functions that it reaches compute, as plain functions, and that they do so. No condition. -/
import Derived.Test.YtdhcpaebmpmihaaGreatDoorRows
import Derived.Test.YtdhcpaebmpmihaaGreatDoorAm4
import Derived.Test.YtdhcpaebmpmihaaGreatDoorShelf
import Derived.Lib.AppendIntMem
namespace Go.Proofs.YtdhcpaebmpmihaaGreatDoor
open Go.Am
set_option maxRecDepth 100000
set_option linter.unusedVariables false

@[reducible] def tyLetter : Ty := .pair (.int .i64) (.pair (.str) (.unit))
@[reducible] def TLetter : Type := Int × List UInt8 × Unit
def zLetter : TLetter := ((0 : Int), (([] : List UInt8), ()))
@[reducible] def tyPriority : Ty := .pair (.int .i64) (.pair (.bool) (.unit))
@[reducible] def TPriority : Type := Int × Bool × Unit
def zPriority : TPriority := ((0 : Int), (false, ()))
@[reducible] def tyRange : Ty := .pair (.int .i64) (.pair (.int .i64) (.unit))
@[reducible] def TRange : Type := Int × Int × Unit
def zRange : TRange := ((0 : Int), ((0 : Int), ()))
@[reducible] def tyRangeH : Ty := .pair (.hid (.int .i64)) (.pair (.hid (.int .i64)) (.unit))
@[reducible] def TRangeH : Type := Unit × Unit × Unit
def zRangeH : TRangeH := ((), ((), ()))
@[reducible] def tyLetterH : Ty := .pair (.hid (.int .i64)) (.pair (.hid (.str)) (.unit))
@[reducible] def TLetterH : Type := Unit × Unit × Unit
def zLetterH : TLetterH := ((), ((), ()))
@[reducible] def tyPriorityH : Ty := .pair (.hid (.int .i64)) (.pair (.hid (.bool)) (.unit))
@[reducible] def TPriorityH : Type := Unit × Unit × Unit
def zPriorityH : TPriorityH := ((), ((), ()))
@[reducible] def tyCount : Ty := .pair (.int .i64) (tyRange)
@[reducible] def TCount : Type := Int × TRange
def zCount : TCount := ((0 : Int), ((0 : Int), ((0 : Int), ())))
@[reducible] def tyCountH : Ty := .pair (.hid (.int .i64)) (tyRangeH)
@[reducible] def TCountH : Type := Unit × TRangeH
def zCountH : TCountH := ((), ((), ((), ())))
@[reducible] def tyAllow : Ty := .pair (.int .i64) (tyCount)
@[reducible] def TAllow : Type := Int × TCount
def zAllow : TAllow := ((0 : Int), ((0 : Int), ((0 : Int), ((0 : Int), ()))))
@[reducible] def tyAllowH : Ty := .pair (.hid (.int .i64)) (tyCountH)
@[reducible] def TAllowH : Type := Unit × TCountH
def zAllowH : TAllowH := ((), ((), ((), ((), ()))))
@[reducible] def tyBuffer : Ty := .pair (.int .i64) (.pair (.slice 199 (tyLetter)) (.unit))
@[reducible] def TBuffer : Type := Int × List TLetter × Unit
def zBuffer : TBuffer := ((0 : Int), (([] : List TLetter), ()))
@[reducible] def tyRing : Ty := .pair (.int .i64) (.pair (.int .i64) (.pair (.int .i64) (.pair (.slice 3 (.int .i64)) (.unit))))
@[reducible] def TRing : Type := Int × Int × Int × List Int × Unit
def zRing : TRing := ((0 : Int), ((0 : Int), ((0 : Int), (([] : List Int), ()))))
@[reducible] def tyBufferx : Ty := .pair (.int .i64) (.pair (.slice 167 (tyLetter)) (.unit))
@[reducible] def TBufferx : Type := Int × List TLetter × Unit
def zBufferx : TBufferx := ((0 : Int), (([] : List TLetter), ()))
@[reducible] def tyRingH : Ty := .pair (.hid (.int .i64)) (.pair (.hid (.int .i64)) (.pair (.hid (.int .i64)) (.pair (.slice 3 (.hid (.int .i64))) (.unit))))
@[reducible] def TRingH : Type := Unit × Unit × Unit × List Unit × Unit
def zRingH : TRingH := ((), ((), ((), (([] : List Unit), ()))))
@[reducible] def tyBufferxH : Ty := .pair (.hid (.int .i64)) (.pair (.slice 167 (tyLetterH)) (.unit))
@[reducible] def TBufferxH : Type := Unit × List TLetterH × Unit
def zBufferxH : TBufferxH := ((), (([] : List TLetterH), ()))
@[reducible] def tyWindow : Ty := .pair (.int .i64) (.pair (.int .i64) (tyAllow))
@[reducible] def TWindow : Type := Int × Int × TAllow
def zWindow : TWindow := ((0 : Int), ((0 : Int), ((0 : Int), ((0 : Int), ((0 : Int), ((0 : Int), ()))))))
@[reducible] def tyWindowH : Ty := .pair (.hid (.int .i64)) (.pair (.hid (.int .i64)) (tyAllowH))
@[reducible] def TWindowH : Type := Unit × Unit × TAllowH
def zWindowH : TWindowH := ((), ((), ((), ((), ((), ((), ()))))))
@[reducible] def tyTrack : Ty := .pair (.int .i64) (.pair (.bool) (.pair (.str) (.pair (.str) (.pair (.bool) (.pair (.bool) (.pair (.bool) (.unit)))))))
@[reducible] def TTrack : Type := Int × Bool × List UInt8 × List UInt8 × Bool × Bool × Bool × Unit
def zTrack : TTrack := ((0 : Int), (false, (([] : List UInt8), (([] : List UInt8), (false, (false, (false, ())))))))
@[reducible] def tyTrackH : Ty := .pair (.hid (.int .i64)) (.pair (.hid (.bool)) (.pair (.hid (.str)) (.pair (.hid (.str)) (.pair (.hid (.bool)) (.pair (.hid (.bool)) (.pair (.hid (.bool)) (.unit)))))))
@[reducible] def TTrackH : Type := Unit × Unit × Unit × Unit × Unit × Unit × Unit × Unit
def zTrackH : TTrackH := ((), ((), ((), ((), ((), ((), ((), ())))))))
@[reducible] def tyConf : Ty := .pair (.int .i64) (.pair (.int .i64) (tyWindow))
@[reducible] def TConf : Type := Int × Int × TWindow
def zConf : TConf := ((0 : Int), ((0 : Int), ((0 : Int), ((0 : Int), ((0 : Int), ((0 : Int), ((0 : Int), ((0 : Int), ()))))))))
@[reducible] def tyConfH : Ty := .pair (.hid (.int .i64)) (.pair (.hid (.int .i64)) (tyWindowH))
@[reducible] def TConfH : Type := Unit × Unit × TWindowH
def zConfH : TConfH := ((), ((), ((), ((), ((), ((), ((), ((), ()))))))))
@[reducible] def tyFrame : Ty := .pair (.int .i64) (.pair (.int .i64) (.pair (.int .i64) (.pair (.str) (.pair (.bool) (.pair (.int .i64) (.pair (.int .i64) (tyPriority)))))))
@[reducible] def TFrame : Type := Int × Int × Int × List UInt8 × Bool × Int × Int × TPriority
def zFrame : TFrame := ((0 : Int), ((0 : Int), ((0 : Int), (([] : List UInt8), (false, ((0 : Int), ((0 : Int), ((0 : Int), (false, ())))))))))
@[reducible] def tyFrameH : Ty := .pair (.hid (.int .i64)) (.pair (.hid (.int .i64)) (.pair (.hid (.int .i64)) (.pair (.hid (.str)) (.pair (.hid (.bool)) (.pair (.hid (.int .i64)) (.pair (.hid (.int .i64)) (tyPriorityH)))))))
@[reducible] def TFrameH : Type := Unit × Unit × Unit × Unit × Unit × Unit × Unit × TPriorityH
def zFrameH : TFrameH := ((), ((), ((), ((), ((), ((), ((), ((), ((), ())))))))))
@[reducible] def tyReceiver : Ty := .pair (.int .i64) (.pair (tyBuffer) (tyCount))
@[reducible] def TReceiver : Type := Int × TBuffer × TCount
def zReceiver : TReceiver := ((0 : Int), (((0 : Int), (([] : List TLetter), ())), ((0 : Int), ((0 : Int), ((0 : Int), ())))))
@[reducible] def tyReceiverx : Ty := .pair (.int .i64) (.pair (tyBufferx) (tyCount))
@[reducible] def TReceiverx : Type := Int × TBufferx × TCount
def zReceiverx : TReceiverx := ((0 : Int), (((0 : Int), (([] : List TLetter), ())), ((0 : Int), ((0 : Int), ((0 : Int), ())))))
@[reducible] def tyReceiverxH : Ty := .pair (.hid (.int .i64)) (.pair (tyBufferxH) (tyCountH))
@[reducible] def TReceiverxH : Type := Unit × TBufferxH × TCountH
def zReceiverxH : TReceiverxH := ((), (((), (([] : List TLetterH), ())), ((), ((), ((), ())))))
@[reducible] def tyPacket : Ty := .pair (.int .i64) (.pair (.slice 174 (tyFrame)) (.unit))
@[reducible] def TPacket : Type := Int × List TFrame × Unit
def zPacket : TPacket := ((0 : Int), (([] : List TFrame), ()))
@[reducible] def tyPacketx : Ty := .pair (.int .i64) (.pair (.slice 169 (tyFrame)) (.unit))
@[reducible] def TPacketx : Type := Int × List TFrame × Unit
def zPacketx : TPacketx := ((0 : Int), (([] : List TFrame), ()))
@[reducible] def tyPacketxH : Ty := .pair (.hid (.int .i64)) (.pair (.slice 169 (tyFrameH)) (.unit))
@[reducible] def TPacketxH : Type := Unit × List TFrameH × Unit
def zPacketxH : TPacketxH := ((), (([] : List TFrameH), ()))
@[reducible] def tySender : Ty := .pair (.int .i64) (.pair (tyRing) (.pair (.slice 187 (tyRange)) (.pair (.slice 187 (tyRange)) (.pair (.slice 187 (tyRange)) (tyAllow)))))
@[reducible] def TSender : Type := Int × TRing × List TRange × List TRange × List TRange × TAllow
def zSender : TSender := ((0 : Int), (((0 : Int), ((0 : Int), ((0 : Int), (([] : List Int), ())))), (([] : List TRange), (([] : List TRange), (([] : List TRange), ((0 : Int), ((0 : Int), ((0 : Int), ((0 : Int), ())))))))))
@[reducible] def tySenderx : Ty := .pair (.int .i64) (.pair (tyRing) (.pair (.slice 165 (tyRange)) (.pair (.slice 165 (tyRange)) (.pair (.slice 165 (tyRange)) (tyAllow)))))
@[reducible] def TSenderx : Type := Int × TRing × List TRange × List TRange × List TRange × TAllow
def zSenderx : TSenderx := ((0 : Int), (((0 : Int), ((0 : Int), ((0 : Int), (([] : List Int), ())))), (([] : List TRange), (([] : List TRange), (([] : List TRange), ((0 : Int), ((0 : Int), ((0 : Int), ((0 : Int), ())))))))))
@[reducible] def tySenderxH : Ty := .pair (.hid (.int .i64)) (.pair (tyRingH) (.pair (.slice 165 (tyRangeH)) (.pair (.slice 165 (tyRangeH)) (.pair (.slice 165 (tyRangeH)) (tyAllowH)))))
@[reducible] def TSenderxH : Type := Unit × TRingH × List TRangeH × List TRangeH × List TRangeH × TAllowH
def zSenderxH : TSenderxH := ((), (((), ((), ((), (([] : List Unit), ())))), (([] : List TRangeH), (([] : List TRangeH), (([] : List TRangeH), ((), ((), ((), ((), ())))))))))
@[reducible] def tyStream : Ty := .pair (.int .i64) (.pair (tySender) (.pair (tyAllow) (.pair (tyReceiver) (.pair (tyWindow) (.pair (tyPriority) (.pair (.bool) (.pair (.bool) (.pair (.bool) (.pair (.bool) (.pair (.bool) (.pair (.bool) (tyPriority))))))))))))
@[reducible] def TStream : Type := Int × TSender × TAllow × TReceiver × TWindow × TPriority × Bool × Bool × Bool × Bool × Bool × Bool × TPriority
def zStream : TStream := ((0 : Int), (((0 : Int), (((0 : Int), ((0 : Int), ((0 : Int), (([] : List Int), ())))), (([] : List TRange), (([] : List TRange), (([] : List TRange), ((0 : Int), ((0 : Int), ((0 : Int), ((0 : Int), ()))))))))), (((0 : Int), ((0 : Int), ((0 : Int), ((0 : Int), ())))), (((0 : Int), (((0 : Int), (([] : List TLetter), ())), ((0 : Int), ((0 : Int), ((0 : Int), ()))))), (((0 : Int), ((0 : Int), ((0 : Int), ((0 : Int), ((0 : Int), ((0 : Int), ())))))), (((0 : Int), (false, ())), (false, (false, (false, (false, (false, (false, ((0 : Int), (false, ()))))))))))))))
@[reducible] def tyStreamx : Ty := .pair (.int .i64) (.pair (tySenderx) (.pair (tyAllow) (.pair (tyReceiverx) (.pair (tyWindow) (.pair (tyPriority) (.pair (.bool) (.pair (.bool) (.pair (.bool) (.pair (.bool) (.pair (.bool) (.pair (.bool) (tyPriority))))))))))))
@[reducible] def TStreamx : Type := Int × TSenderx × TAllow × TReceiverx × TWindow × TPriority × Bool × Bool × Bool × Bool × Bool × Bool × TPriority
def zStreamx : TStreamx := ((0 : Int), (((0 : Int), (((0 : Int), ((0 : Int), ((0 : Int), (([] : List Int), ())))), (([] : List TRange), (([] : List TRange), (([] : List TRange), ((0 : Int), ((0 : Int), ((0 : Int), ((0 : Int), ()))))))))), (((0 : Int), ((0 : Int), ((0 : Int), ((0 : Int), ())))), (((0 : Int), (((0 : Int), (([] : List TLetter), ())), ((0 : Int), ((0 : Int), ((0 : Int), ()))))), (((0 : Int), ((0 : Int), ((0 : Int), ((0 : Int), ((0 : Int), ((0 : Int), ())))))), (((0 : Int), (false, ())), (false, (false, (false, (false, (false, (false, ((0 : Int), (false, ()))))))))))))))
@[reducible] def tyStreamxH : Ty := .pair (.hid (.int .i64)) (.pair (tySenderxH) (.pair (tyAllowH) (.pair (tyReceiverxH) (.pair (tyWindowH) (.pair (tyPriorityH) (.pair (.hid (.bool)) (.pair (.hid (.bool)) (.pair (.hid (.bool)) (.pair (.hid (.bool)) (.pair (.hid (.bool)) (.pair (.hid (.bool)) (tyPriorityH))))))))))))
@[reducible] def TStreamxH : Type := Unit × TSenderxH × TAllowH × TReceiverxH × TWindowH × TPriorityH × Unit × Unit × Unit × Unit × Unit × Unit × TPriorityH
def zStreamxH : TStreamxH := ((), (((), (((), ((), ((), (([] : List Unit), ())))), (([] : List TRangeH), (([] : List TRangeH), (([] : List TRangeH), ((), ((), ((), ((), ()))))))))), (((), ((), ((), ((), ())))), (((), (((), (([] : List TLetterH), ())), ((), ((), ((), ()))))), (((), ((), ((), ((), ((), ((), ())))))), (((), ((), ())), ((), ((), ((), ((), ((), ((), ((), ((), ()))))))))))))))
@[reducible] def tyConn : Ty := .pair (.bool) (.pair (tyConf) (.pair (tyConf) (.pair (.slice 125 (tyStream)) (.pair (tyAllow) (.pair (tyWindow) (.pair (tyCount) (.pair (tyCount) (.pair (tyAllow) (.pair (tyAllow) (.pair (.bool) (.pair (.bool) (.pair (.bool) (.pair (.int .i64) (.pair (.int .i64) (.pair (.slice 129 (tyPacket)) (tyRange))))))))))))))))
@[reducible] def TConn : Type := Bool × TConf × TConf × List TStream × TAllow × TWindow × TCount × TCount × TAllow × TAllow × Bool × Bool × Bool × Int × Int × List TPacket × TRange
def zConn : TConn := (false, (((0 : Int), ((0 : Int), ((0 : Int), ((0 : Int), ((0 : Int), ((0 : Int), ((0 : Int), ((0 : Int), ())))))))), (((0 : Int), ((0 : Int), ((0 : Int), ((0 : Int), ((0 : Int), ((0 : Int), ((0 : Int), ((0 : Int), ())))))))), (([] : List TStream), (((0 : Int), ((0 : Int), ((0 : Int), ((0 : Int), ())))), (((0 : Int), ((0 : Int), ((0 : Int), ((0 : Int), ((0 : Int), ((0 : Int), ())))))), (((0 : Int), ((0 : Int), ((0 : Int), ()))), (((0 : Int), ((0 : Int), ((0 : Int), ()))), (((0 : Int), ((0 : Int), ((0 : Int), ((0 : Int), ())))), (((0 : Int), ((0 : Int), ((0 : Int), ((0 : Int), ())))), (false, (false, (false, ((0 : Int), ((0 : Int), (([] : List TPacket), ((0 : Int), ((0 : Int), ()))))))))))))))))))
@[reducible] def tyConnx : Ty := .pair (.bool) (.pair (tyConf) (.pair (tyConf) (.pair (.slice 141 (tyStreamx)) (.pair (tyAllow) (.pair (tyWindow) (.pair (tyCount) (.pair (tyCount) (.pair (tyAllow) (.pair (tyAllow) (.pair (.bool) (.pair (.bool) (.pair (.bool) (.pair (.int .i64) (.pair (.int .i64) (.pair (.slice 145 (tyPacketx)) (tyRange))))))))))))))))
@[reducible] def TConnx : Type := Bool × TConf × TConf × List TStreamx × TAllow × TWindow × TCount × TCount × TAllow × TAllow × Bool × Bool × Bool × Int × Int × List TPacketx × TRange
def zConnx : TConnx := (false, (((0 : Int), ((0 : Int), ((0 : Int), ((0 : Int), ((0 : Int), ((0 : Int), ((0 : Int), ((0 : Int), ())))))))), (((0 : Int), ((0 : Int), ((0 : Int), ((0 : Int), ((0 : Int), ((0 : Int), ((0 : Int), ((0 : Int), ())))))))), (([] : List TStreamx), (((0 : Int), ((0 : Int), ((0 : Int), ((0 : Int), ())))), (((0 : Int), ((0 : Int), ((0 : Int), ((0 : Int), ((0 : Int), ((0 : Int), ())))))), (((0 : Int), ((0 : Int), ((0 : Int), ()))), (((0 : Int), ((0 : Int), ((0 : Int), ()))), (((0 : Int), ((0 : Int), ((0 : Int), ((0 : Int), ())))), (((0 : Int), ((0 : Int), ((0 : Int), ((0 : Int), ())))), (false, (false, (false, ((0 : Int), ((0 : Int), (([] : List TPacketx), ((0 : Int), ((0 : Int), ()))))))))))))))))))
@[reducible] def tyConnxH : Ty := .pair (.hid (.bool)) (.pair (tyConfH) (.pair (tyConfH) (.pair (.slice 141 (tyStreamxH)) (.pair (tyAllowH) (.pair (tyWindowH) (.pair (tyCountH) (.pair (tyCountH) (.pair (tyAllowH) (.pair (tyAllowH) (.pair (.hid (.bool)) (.pair (.hid (.bool)) (.pair (.hid (.bool)) (.pair (.hid (.int .i64)) (.pair (.hid (.int .i64)) (.pair (.slice 145 (tyPacketxH)) (tyRangeH))))))))))))))))
@[reducible] def TConnxH : Type := Unit × TConfH × TConfH × List TStreamxH × TAllowH × TWindowH × TCountH × TCountH × TAllowH × TAllowH × Unit × Unit × Unit × Unit × Unit × List TPacketxH × TRangeH
def zConnxH : TConnxH := ((), (((), ((), ((), ((), ((), ((), ((), ((), ())))))))), (((), ((), ((), ((), ((), ((), ((), ((), ())))))))), (([] : List TStreamxH), (((), ((), ((), ((), ())))), (((), ((), ((), ((), ((), ((), ())))))), (((), ((), ((), ()))), (((), ((), ((), ()))), (((), ((), ((), ((), ())))), (((), ((), ((), ((), ())))), ((), ((), ((), ((), ((), (([] : List TPacketxH), ((), ((), ()))))))))))))))))))
@[reducible] def tyPair : Ty := .pair (tyConn) (.pair (tyConn) (.pair (.slice 82 (tyLetter)) (.pair (.slice 82 (tyLetter)) (.pair (.slice 84 (tyTrack)) (.unit)))))
@[reducible] def TPair : Type := TConn × TConn × List TLetter × List TLetter × List TTrack × Unit
def zPair : TPair := ((false, (((0 : Int), ((0 : Int), ((0 : Int), ((0 : Int), ((0 : Int), ((0 : Int), ((0 : Int), ((0 : Int), ())))))))), (((0 : Int), ((0 : Int), ((0 : Int), ((0 : Int), ((0 : Int), ((0 : Int), ((0 : Int), ((0 : Int), ())))))))), (([] : List TStream), (((0 : Int), ((0 : Int), ((0 : Int), ((0 : Int), ())))), (((0 : Int), ((0 : Int), ((0 : Int), ((0 : Int), ((0 : Int), ((0 : Int), ())))))), (((0 : Int), ((0 : Int), ((0 : Int), ()))), (((0 : Int), ((0 : Int), ((0 : Int), ()))), (((0 : Int), ((0 : Int), ((0 : Int), ((0 : Int), ())))), (((0 : Int), ((0 : Int), ((0 : Int), ((0 : Int), ())))), (false, (false, (false, ((0 : Int), ((0 : Int), (([] : List TPacket), ((0 : Int), ((0 : Int), ())))))))))))))))))), ((false, (((0 : Int), ((0 : Int), ((0 : Int), ((0 : Int), ((0 : Int), ((0 : Int), ((0 : Int), ((0 : Int), ())))))))), (((0 : Int), ((0 : Int), ((0 : Int), ((0 : Int), ((0 : Int), ((0 : Int), ((0 : Int), ((0 : Int), ())))))))), (([] : List TStream), (((0 : Int), ((0 : Int), ((0 : Int), ((0 : Int), ())))), (((0 : Int), ((0 : Int), ((0 : Int), ((0 : Int), ((0 : Int), ((0 : Int), ())))))), (((0 : Int), ((0 : Int), ((0 : Int), ()))), (((0 : Int), ((0 : Int), ((0 : Int), ()))), (((0 : Int), ((0 : Int), ((0 : Int), ((0 : Int), ())))), (((0 : Int), ((0 : Int), ((0 : Int), ((0 : Int), ())))), (false, (false, (false, ((0 : Int), ((0 : Int), (([] : List TPacket), ((0 : Int), ((0 : Int), ())))))))))))))))))), (([] : List TLetter), (([] : List TLetter), (([] : List TTrack), ())))))
@[reducible] def tyPairx : Ty := .pair (tyConnx) (.pair (tyConnx) (.pair (.slice 93 (tyLetter)) (.pair (.slice 93 (tyLetter)) (.pair (.slice 67 (tyTrack)) (.unit)))))
@[reducible] def TPairx : Type := TConnx × TConnx × List TLetter × List TLetter × List TTrack × Unit
def zPairx : TPairx := ((false, (((0 : Int), ((0 : Int), ((0 : Int), ((0 : Int), ((0 : Int), ((0 : Int), ((0 : Int), ((0 : Int), ())))))))), (((0 : Int), ((0 : Int), ((0 : Int), ((0 : Int), ((0 : Int), ((0 : Int), ((0 : Int), ((0 : Int), ())))))))), (([] : List TStreamx), (((0 : Int), ((0 : Int), ((0 : Int), ((0 : Int), ())))), (((0 : Int), ((0 : Int), ((0 : Int), ((0 : Int), ((0 : Int), ((0 : Int), ())))))), (((0 : Int), ((0 : Int), ((0 : Int), ()))), (((0 : Int), ((0 : Int), ((0 : Int), ()))), (((0 : Int), ((0 : Int), ((0 : Int), ((0 : Int), ())))), (((0 : Int), ((0 : Int), ((0 : Int), ((0 : Int), ())))), (false, (false, (false, ((0 : Int), ((0 : Int), (([] : List TPacketx), ((0 : Int), ((0 : Int), ())))))))))))))))))), ((false, (((0 : Int), ((0 : Int), ((0 : Int), ((0 : Int), ((0 : Int), ((0 : Int), ((0 : Int), ((0 : Int), ())))))))), (((0 : Int), ((0 : Int), ((0 : Int), ((0 : Int), ((0 : Int), ((0 : Int), ((0 : Int), ((0 : Int), ())))))))), (([] : List TStreamx), (((0 : Int), ((0 : Int), ((0 : Int), ((0 : Int), ())))), (((0 : Int), ((0 : Int), ((0 : Int), ((0 : Int), ((0 : Int), ((0 : Int), ())))))), (((0 : Int), ((0 : Int), ((0 : Int), ()))), (((0 : Int), ((0 : Int), ((0 : Int), ()))), (((0 : Int), ((0 : Int), ((0 : Int), ((0 : Int), ())))), (((0 : Int), ((0 : Int), ((0 : Int), ((0 : Int), ())))), (false, (false, (false, ((0 : Int), ((0 : Int), (([] : List TPacketx), ((0 : Int), ((0 : Int), ())))))))))))))))))), (([] : List TLetter), (([] : List TLetter), (([] : List TTrack), ())))))
@[reducible] def tyPairxH : Ty := .pair (tyConnxH) (.pair (tyConnxH) (.pair (.slice 93 (tyLetterH)) (.pair (.slice 93 (tyLetterH)) (.pair (.slice 67 (tyTrackH)) (.unit)))))
@[reducible] def TPairxH : Type := TConnxH × TConnxH × List TLetterH × List TLetterH × List TTrackH × Unit
def zPairxH : TPairxH := (((), (((), ((), ((), ((), ((), ((), ((), ((), ())))))))), (((), ((), ((), ((), ((), ((), ((), ((), ())))))))), (([] : List TStreamxH), (((), ((), ((), ((), ())))), (((), ((), ((), ((), ((), ((), ())))))), (((), ((), ((), ()))), (((), ((), ((), ()))), (((), ((), ((), ((), ())))), (((), ((), ((), ((), ())))), ((), ((), ((), ((), ((), (([] : List TPacketxH), ((), ((), ())))))))))))))))))), (((), (((), ((), ((), ((), ((), ((), ((), ((), ())))))))), (((), ((), ((), ((), ((), ((), ((), ((), ())))))))), (([] : List TStreamxH), (((), ((), ((), ((), ())))), (((), ((), ((), ((), ((), ((), ())))))), (((), ((), ((), ()))), (((), ((), ((), ()))), (((), ((), ((), ((), ())))), (((), ((), ((), ((), ())))), ((), ((), ((), ((), ((), (([] : List TPacketxH), ((), ((), ())))))))))))))))))), (([] : List TLetterH), (([] : List TLetterH), (([] : List TTrackH), ())))))
noncomputable def laws_szIntS (a0 : List Int) (left1 : Int) : Option (Int × Unit) :=
  let t8 : Int := IntKind.i64.wrap (left1 - (a0.length : Int))
  bif decide (t8 < (0 : Int)) then
    some ((-1 : Int), ())
  else
    some (t8, ())
noncomputable def laws_szRing (a0 : TRing) (left1 : Int) : Option (Int × Unit) :=
  Option.bind (laws_szIntS a0.2.2.2.1 left1) fun t8 =>
  bif decide (t8.1 < (0 : Int)) then
    some ((-1 : Int), ())
  else
    some (t8.1, ())
noncomputable def laws_szRangeS (a0 : List TRange) (left1 : Int) : Option (Int × Unit) :=
  let t8 : Int := IntKind.i64.wrap (left1 - (a0.length : Int))
  bif decide (t8 < (0 : Int)) then
    some ((-1 : Int), ())
  else
    some (t8, ())
noncomputable def laws_szSender (a0 : TSender) (left1 : Int) : Option (Int × Unit) :=
  Option.bind (laws_szRing a0.2.1 left1) fun t8 =>
  bif decide (t8.1 < (0 : Int)) then
    some ((-1 : Int), ())
  else
    Option.bind (laws_szRangeS a0.2.2.1 t8.1) fun t14 =>
    bif decide (t14.1 < (0 : Int)) then
      some ((-1 : Int), ())
    else
      Option.bind (laws_szRangeS a0.2.2.2.1 t14.1) fun t20 =>
      bif decide (t20.1 < (0 : Int)) then
        some ((-1 : Int), ())
      else
        Option.bind (laws_szRangeS a0.2.2.2.2.1 t20.1) fun t26 =>
        bif decide (t26.1 < (0 : Int)) then
          some ((-1 : Int), ())
        else
          some (t26.1, ())
noncomputable def laws_szChunk (a0 : TLetter) (left1 : Int) : Option (Int × Unit) :=
  let t9 : Int := IntKind.i64.wrap (left1 - (a0.2.1.length : Int))
  bif decide (t9 < (0 : Int)) then
    some ((-1 : Int), ())
  else
    some (t9, ())
@[reducible] def laws_szChunkS_l1_p : List PE := [.val 0 (.slice 199 (tyLetter)) (.u false), .val 1 (.int .i64) (.u false), .val 5 (.int .i64) (.u false)]
def laws_szChunkS_l1_fuel (a0_1 : List TLetter) (left1_1 : Int) (i5 : Int) : Nat := ((a0_1.length : Int) - i5).toNat + 1
noncomputable def laws_szChunkS_l1 : Nat → List TLetter → Int → Int → Option (Int × Unit)
  | 0, _, _, _ => none
  | N + 1, a0_1, left1_1, i5 =>
    bif decide (i5 < (a0_1.length : Int)) then
      guardP (0 ≤ i5 ∧ i5 < a0_1.length) <|
      Option.bind (laws_szChunk (a0_1.getD i5.toNat zLetter) left1_1) fun t23 =>
      bif decide (t23.1 < (0 : Int)) then
        some ((-1 : Int), ())
      else
        laws_szChunkS_l1 N a0_1 t23.1 (IntKind.i64.wrap (i5 + (1 : Int)))
    else
      some (left1_1, ())
noncomputable def laws_szChunkS (a0 : List TLetter) (left1 : Int) : Option (Int × Unit) :=
  let t9 : Int := IntKind.i64.wrap (left1 - (a0.length : Int))
  bif decide (t9 < (0 : Int)) then
    some ((-1 : Int), ())
  else
    laws_szChunkS_l1 (laws_szChunkS_l1_fuel a0 t9 (0 : Int)) a0 t9 (0 : Int)
noncomputable def laws_szBuffer (a0 : TBuffer) (left1 : Int) : Option (Int × Unit) :=
  Option.bind (laws_szChunkS a0.2.1 left1) fun t8 =>
  bif decide (t8.1 < (0 : Int)) then
    some ((-1 : Int), ())
  else
    some (t8.1, ())
noncomputable def laws_szReceiver (a0 : TReceiver) (left1 : Int) : Option (Int × Unit) :=
  Option.bind (laws_szBuffer a0.2.1 left1) fun t8 =>
  bif decide (t8.1 < (0 : Int)) then
    some ((-1 : Int), ())
  else
    some (t8.1, ())
noncomputable def laws_szStream (a0 : TStream) (left1 : Int) : Option (Int × Unit) :=
  Option.bind (laws_szSender a0.2.1 left1) fun t8 =>
  bif decide (t8.1 < (0 : Int)) then
    some ((-1 : Int), ())
  else
    Option.bind (laws_szReceiver a0.2.2.2.1 t8.1) fun t14 =>
    bif decide (t14.1 < (0 : Int)) then
      some ((-1 : Int), ())
    else
      some (t14.1, ())
@[reducible] def laws_szStreamS_l1_p : List PE := [.val 0 (.slice 125 (tyStream)) (.u false), .val 1 (.int .i64) (.u false), .val 5 (.int .i64) (.u false)]
def laws_szStreamS_l1_fuel (a0_1 : List TStream) (left1_1 : Int) (i5 : Int) : Nat := ((a0_1.length : Int) - i5).toNat + 1
noncomputable def laws_szStreamS_l1 : Nat → List TStream → Int → Int → Option (Int × Unit)
  | 0, _, _, _ => none
  | N + 1, a0_1, left1_1, i5 =>
    bif decide (i5 < (a0_1.length : Int)) then
      guardP (0 ≤ i5 ∧ i5 < a0_1.length) <|
      Option.bind (laws_szStream (a0_1.getD i5.toNat zStream) left1_1) fun t23 =>
      bif decide (t23.1 < (0 : Int)) then
        some ((-1 : Int), ())
      else
        laws_szStreamS_l1 N a0_1 t23.1 (IntKind.i64.wrap (i5 + (1 : Int)))
    else
      some (left1_1, ())
noncomputable def laws_szStreamS (a0 : List TStream) (left1 : Int) : Option (Int × Unit) :=
  let t9 : Int := IntKind.i64.wrap (left1 - (a0.length : Int))
  bif decide (t9 < (0 : Int)) then
    some ((-1 : Int), ())
  else
    laws_szStreamS_l1 (laws_szStreamS_l1_fuel a0 t9 (0 : Int)) a0 t9 (0 : Int)
noncomputable def laws_szFrame (a0 : TFrame) (left1 : Int) : Option (Int × Unit) :=
  let t9 : Int := IntKind.i64.wrap (left1 - (a0.2.2.2.1.length : Int))
  bif decide (t9 < (0 : Int)) then
    some ((-1 : Int), ())
  else
    some (t9, ())
@[reducible] def laws_szFrameS_l1_p : List PE := [.val 0 (.slice 174 (tyFrame)) (.u false), .val 1 (.int .i64) (.u false), .val 5 (.int .i64) (.u false)]
def laws_szFrameS_l1_fuel (a0_1 : List TFrame) (left1_1 : Int) (i5 : Int) : Nat := ((a0_1.length : Int) - i5).toNat + 1
noncomputable def laws_szFrameS_l1 : Nat → List TFrame → Int → Int → Option (Int × Unit)
  | 0, _, _, _ => none
  | N + 1, a0_1, left1_1, i5 =>
    bif decide (i5 < (a0_1.length : Int)) then
      guardP (0 ≤ i5 ∧ i5 < a0_1.length) <|
      Option.bind (laws_szFrame (a0_1.getD i5.toNat zFrame) left1_1) fun t23 =>
      bif decide (t23.1 < (0 : Int)) then
        some ((-1 : Int), ())
      else
        laws_szFrameS_l1 N a0_1 t23.1 (IntKind.i64.wrap (i5 + (1 : Int)))
    else
      some (left1_1, ())
noncomputable def laws_szFrameS (a0 : List TFrame) (left1 : Int) : Option (Int × Unit) :=
  let t9 : Int := IntKind.i64.wrap (left1 - (a0.length : Int))
  bif decide (t9 < (0 : Int)) then
    some ((-1 : Int), ())
  else
    laws_szFrameS_l1 (laws_szFrameS_l1_fuel a0 t9 (0 : Int)) a0 t9 (0 : Int)
noncomputable def laws_szPacket (a0 : TPacket) (left1 : Int) : Option (Int × Unit) :=
  Option.bind (laws_szFrameS a0.2.1 left1) fun t8 =>
  bif decide (t8.1 < (0 : Int)) then
    some ((-1 : Int), ())
  else
    some (t8.1, ())
@[reducible] def laws_szPacketS_l1_p : List PE := [.val 0 (.slice 129 (tyPacket)) (.u false), .val 1 (.int .i64) (.u false), .val 5 (.int .i64) (.u false)]
def laws_szPacketS_l1_fuel (a0_1 : List TPacket) (left1_1 : Int) (i5 : Int) : Nat := ((a0_1.length : Int) - i5).toNat + 1
noncomputable def laws_szPacketS_l1 : Nat → List TPacket → Int → Int → Option (Int × Unit)
  | 0, _, _, _ => none
  | N + 1, a0_1, left1_1, i5 =>
    bif decide (i5 < (a0_1.length : Int)) then
      guardP (0 ≤ i5 ∧ i5 < a0_1.length) <|
      Option.bind (laws_szPacket (a0_1.getD i5.toNat zPacket) left1_1) fun t23 =>
      bif decide (t23.1 < (0 : Int)) then
        some ((-1 : Int), ())
      else
        laws_szPacketS_l1 N a0_1 t23.1 (IntKind.i64.wrap (i5 + (1 : Int)))
    else
      some (left1_1, ())
noncomputable def laws_szPacketS (a0 : List TPacket) (left1 : Int) : Option (Int × Unit) :=
  let t9 : Int := IntKind.i64.wrap (left1 - (a0.length : Int))
  bif decide (t9 < (0 : Int)) then
    some ((-1 : Int), ())
  else
    laws_szPacketS_l1 (laws_szPacketS_l1_fuel a0 t9 (0 : Int)) a0 t9 (0 : Int)
noncomputable def laws_szConn (a0 : TConn) (left1 : Int) : Option (Int × Unit) :=
  Option.bind (laws_szStreamS a0.2.2.2.1 left1) fun t8 =>
  bif decide (t8.1 < (0 : Int)) then
    some ((-1 : Int), ())
  else
    Option.bind (laws_szPacketS a0.2.2.2.2.2.2.2.2.2.2.2.2.2.2.2.1 t8.1) fun t14 =>
    bif decide (t14.1 < (0 : Int)) then
      some ((-1 : Int), ())
    else
      some (t14.1, ())
noncomputable def laws_szLetter (a0 : TLetter) (left1 : Int) : Option (Int × Unit) :=
  let t9 : Int := IntKind.i64.wrap (left1 - (a0.2.1.length : Int))
  bif decide (t9 < (0 : Int)) then
    some ((-1 : Int), ())
  else
    some (t9, ())
@[reducible] def laws_szLetterS_l1_p : List PE := [.val 0 (.slice 82 (tyLetter)) (.u false), .val 1 (.int .i64) (.u false), .val 5 (.int .i64) (.u false)]
def laws_szLetterS_l1_fuel (a0_1 : List TLetter) (left1_1 : Int) (i5 : Int) : Nat := ((a0_1.length : Int) - i5).toNat + 1
noncomputable def laws_szLetterS_l1 : Nat → List TLetter → Int → Int → Option (Int × Unit)
  | 0, _, _, _ => none
  | N + 1, a0_1, left1_1, i5 =>
    bif decide (i5 < (a0_1.length : Int)) then
      guardP (0 ≤ i5 ∧ i5 < a0_1.length) <|
      Option.bind (laws_szLetter (a0_1.getD i5.toNat zLetter) left1_1) fun t23 =>
      bif decide (t23.1 < (0 : Int)) then
        some ((-1 : Int), ())
      else
        laws_szLetterS_l1 N a0_1 t23.1 (IntKind.i64.wrap (i5 + (1 : Int)))
    else
      some (left1_1, ())
noncomputable def laws_szLetterS (a0 : List TLetter) (left1 : Int) : Option (Int × Unit) :=
  let t9 : Int := IntKind.i64.wrap (left1 - (a0.length : Int))
  bif decide (t9 < (0 : Int)) then
    some ((-1 : Int), ())
  else
    laws_szLetterS_l1 (laws_szLetterS_l1_fuel a0 t9 (0 : Int)) a0 t9 (0 : Int)
noncomputable def laws_szTrack (a0 : TTrack) (left1 : Int) : Option (Int × Unit) :=
  let t9 : Int := IntKind.i64.wrap (left1 - (a0.2.2.1.length : Int))
  bif decide (t9 < (0 : Int)) then
    some ((-1 : Int), ())
  else
    let t16 : Int := IntKind.i64.wrap (t9 - (a0.2.2.2.1.length : Int))
    bif decide (t16 < (0 : Int)) then
      some ((-1 : Int), ())
    else
      some (t16, ())
@[reducible] def laws_szTrackS_l1_p : List PE := [.val 0 (.slice 84 (tyTrack)) (.u false), .val 1 (.int .i64) (.u false), .val 5 (.int .i64) (.u false)]
def laws_szTrackS_l1_fuel (a0_1 : List TTrack) (left1_1 : Int) (i5 : Int) : Nat := ((a0_1.length : Int) - i5).toNat + 1
noncomputable def laws_szTrackS_l1 : Nat → List TTrack → Int → Int → Option (Int × Unit)
  | 0, _, _, _ => none
  | N + 1, a0_1, left1_1, i5 =>
    bif decide (i5 < (a0_1.length : Int)) then
      guardP (0 ≤ i5 ∧ i5 < a0_1.length) <|
      Option.bind (laws_szTrack (a0_1.getD i5.toNat zTrack) left1_1) fun t23 =>
      bif decide (t23.1 < (0 : Int)) then
        some ((-1 : Int), ())
      else
        laws_szTrackS_l1 N a0_1 t23.1 (IntKind.i64.wrap (i5 + (1 : Int)))
    else
      some (left1_1, ())
noncomputable def laws_szTrackS (a0 : List TTrack) (left1 : Int) : Option (Int × Unit) :=
  let t9 : Int := IntKind.i64.wrap (left1 - (a0.length : Int))
  bif decide (t9 < (0 : Int)) then
    some ((-1 : Int), ())
  else
    laws_szTrackS_l1 (laws_szTrackS_l1_fuel a0 t9 (0 : Int)) a0 t9 (0 : Int)
noncomputable def laws_szPair (a0 : TPair) (left1 : Int) : Option (Int × Unit) :=
  Option.bind (laws_szConn a0.1 left1) fun t8 =>
  bif decide (t8.1 < (0 : Int)) then
    some ((-1 : Int), ())
  else
    Option.bind (laws_szConn a0.2.1 t8.1) fun t14 =>
    bif decide (t14.1 < (0 : Int)) then
      some ((-1 : Int), ())
    else
      Option.bind (laws_szLetterS a0.2.2.1 t14.1) fun t20 =>
      bif decide (t20.1 < (0 : Int)) then
        some ((-1 : Int), ())
      else
        Option.bind (laws_szLetterS a0.2.2.2.1 t20.1) fun t26 =>
        bif decide (t26.1 < (0 : Int)) then
          some ((-1 : Int), ())
        else
          Option.bind (laws_szTrackS a0.2.2.2.2.1 t26.1) fun t32 =>
          bif decide (t32.1 < (0 : Int)) then
            some ((-1 : Int), ())
          else
            some (t32.1, ())
noncomputable def laws_toConf (a0 : TConf) : Option (TConf × Unit) :=
  some ((a0.1, (a0.2.1, (a0.2.2.1, (a0.2.2.2.1, (a0.2.2.2.2.1, (a0.2.2.2.2.2.1, (a0.2.2.2.2.2.2.1, (a0.2.2.2.2.2.2.2.1, ())))))))), ())
@[reducible] def laws_toIntS_l1_p : List PE := [.val 0 (.slice 3 (.int .i64)) (.u false), .val 3 (.slice 3 (.int .i64)) (.u true), .val 4 (.int .i64) (.u false)]
def laws_toIntS_l1_fuel (a0_1 : List Int) (out3 : List Int) (i4 : Int) : Nat := ((a0_1.length : Int) - i4).toNat + 1
noncomputable def laws_toIntS_l1 : Nat → List Int → List Int → Int → Option (List Int × Unit)
  | 0, _, _, _ => none
  | N + 1, a0_1, out3, i4 =>
    bif decide (i4 < (a0_1.length : Int)) then
      guardP (0 ≤ i4 ∧ i4 < a0_1.length) <|
      guardP (0 ≤ i4 ∧ i4 < out3.length) <|
      laws_toIntS_l1 N a0_1 (out3.set i4.toNat (a0_1.getD i4.toNat (0 : Int))) (IntKind.i64.wrap (i4 + (1 : Int)))
    else
      some (out3, ())
noncomputable def laws_toIntS (a0 : List Int) : Option (List Int × Unit) :=
  guardP (0 ≤ (a0.length : Int) ∧ (a0.length : Int) ≤ (a0.length : Int) ∧ (a0.length : Int) ≤ capN) <|
  let t7 : List Int := List.replicate (a0.length : Int).toNat (0 : Int)
  laws_toIntS_l1 (laws_toIntS_l1_fuel a0 t7 (0 : Int)) a0 t7 (0 : Int)
noncomputable def laws_toRing (a0 : TRing) : Option (TRing × Unit) :=
  Option.bind (laws_toIntS a0.2.2.2.1) fun t15 =>
  some ((a0.1, (a0.2.1, (a0.2.2.1, (t15.1, ())))), ())
noncomputable def laws_toRange (a0 : TRange) : Option (TRange × Unit) :=
  some ((a0.1, (a0.2.1, ())), ())
@[reducible] def laws_toRangeS_l1_p : List PE := [.val 0 (.slice 187 (tyRange)) (.u false), .val 3 (.slice 165 (tyRange)) (.u true), .val 4 (.int .i64) (.u false)]
def laws_toRangeS_l1_fuel (a0_1 : List TRange) (out3 : List TRange) (i4 : Int) : Nat := ((a0_1.length : Int) - i4).toNat + 1
noncomputable def laws_toRangeS_l1 : Nat → List TRange → List TRange → Int → Option (List TRange × Unit)
  | 0, _, _, _ => none
  | N + 1, a0_1, out3, i4 =>
    bif decide (i4 < (a0_1.length : Int)) then
      guardP (0 ≤ i4 ∧ i4 < a0_1.length) <|
      Option.bind (laws_toRange (a0_1.getD i4.toNat zRange)) fun t20 =>
      guardP (0 ≤ i4 ∧ i4 < out3.length) <|
      laws_toRangeS_l1 N a0_1 (out3.set i4.toNat t20.1) (IntKind.i64.wrap (i4 + (1 : Int)))
    else
      some (out3, ())
noncomputable def laws_toRangeS (a0 : List TRange) : Option (List TRange × Unit) :=
  guardP (0 ≤ (a0.length : Int) ∧ (a0.length : Int) ≤ (a0.length : Int) ∧ (a0.length : Int) ≤ capN) <|
  let t7 : List TRange := List.replicate (a0.length : Int).toNat zRange
  laws_toRangeS_l1 (laws_toRangeS_l1_fuel a0 t7 (0 : Int)) a0 t7 (0 : Int)
noncomputable def laws_toSender (a0 : TSender) : Option (TSenderx × Unit) :=
  Option.bind (laws_toRing a0.2.1) fun t9 =>
  Option.bind (laws_toRangeS a0.2.2.1) fun t13 =>
  Option.bind (laws_toRangeS a0.2.2.2.1) fun t17 =>
  Option.bind (laws_toRangeS a0.2.2.2.2.1) fun t21 =>
  some ((a0.1, (t9.1, (t13.1, (t17.1, (t21.1, (a0.2.2.2.2.2.1, (a0.2.2.2.2.2.2.1, (a0.2.2.2.2.2.2.2.1, (a0.2.2.2.2.2.2.2.2.1, ()))))))))), ())
noncomputable def laws_toCredit (a0 : TAllow) : Option (TAllow × Unit) :=
  some ((a0.1, (a0.2.1, (a0.2.2.1, (a0.2.2.2.1, ())))), ())
noncomputable def laws_toChunk (a0 : TLetter) : Option (TLetter × Unit) :=
  some ((a0.1, (a0.2.1, ())), ())
@[reducible] def laws_toChunkS_l1_p : List PE := [.val 0 (.slice 199 (tyLetter)) (.u false), .val 3 (.slice 167 (tyLetter)) (.u true), .val 4 (.int .i64) (.u false)]
def laws_toChunkS_l1_fuel (a0_1 : List TLetter) (out3 : List TLetter) (i4 : Int) : Nat := ((a0_1.length : Int) - i4).toNat + 1
noncomputable def laws_toChunkS_l1 : Nat → List TLetter → List TLetter → Int → Option (List TLetter × Unit)
  | 0, _, _, _ => none
  | N + 1, a0_1, out3, i4 =>
    bif decide (i4 < (a0_1.length : Int)) then
      guardP (0 ≤ i4 ∧ i4 < a0_1.length) <|
      Option.bind (laws_toChunk (a0_1.getD i4.toNat zLetter)) fun t20 =>
      guardP (0 ≤ i4 ∧ i4 < out3.length) <|
      laws_toChunkS_l1 N a0_1 (out3.set i4.toNat t20.1) (IntKind.i64.wrap (i4 + (1 : Int)))
    else
      some (out3, ())
noncomputable def laws_toChunkS (a0 : List TLetter) : Option (List TLetter × Unit) :=
  guardP (0 ≤ (a0.length : Int) ∧ (a0.length : Int) ≤ (a0.length : Int) ∧ (a0.length : Int) ≤ capN) <|
  let t7 : List TLetter := List.replicate (a0.length : Int).toNat zLetter
  laws_toChunkS_l1 (laws_toChunkS_l1_fuel a0 t7 (0 : Int)) a0 t7 (0 : Int)
noncomputable def laws_toBuffer (a0 : TBuffer) : Option (TBufferx × Unit) :=
  Option.bind (laws_toChunkS a0.2.1) fun t9 =>
  some ((a0.1, (t9.1, ())), ())
noncomputable def laws_toReceiver (a0 : TReceiver) : Option (TReceiverx × Unit) :=
  Option.bind (laws_toBuffer a0.2.1) fun t9 =>
  some ((a0.1, (t9.1, (a0.2.2.1, (a0.2.2.2.1, (a0.2.2.2.2.1, ()))))), ())
noncomputable def laws_toWindow (a0 : TWindow) : Option (TWindow × Unit) :=
  some ((a0.1, (a0.2.1, (a0.2.2.1, (a0.2.2.2.1, (a0.2.2.2.2.1, (a0.2.2.2.2.2.1, ())))))), ())
noncomputable def laws_toPriority (a0 : TPriority) : Option (TPriority × Unit) :=
  some ((a0.1, (a0.2.1, ())), ())
noncomputable def laws_toStream (a0 : TStream) : Option (TStreamx × Unit) :=
  Option.bind (laws_toSender a0.2.1) fun t9 =>
  Option.bind (laws_toCredit a0.2.2.1) fun t13 =>
  Option.bind (laws_toReceiver a0.2.2.2.1) fun t17 =>
  Option.bind (laws_toWindow a0.2.2.2.2.1) fun t21 =>
  Option.bind (laws_toPriority a0.2.2.2.2.2.1) fun t25 =>
  some ((a0.1, (t9.1, (t13.1, (t17.1, (t21.1, (t25.1, (a0.2.2.2.2.2.2.1, (a0.2.2.2.2.2.2.2.1, (a0.2.2.2.2.2.2.2.2.1, (a0.2.2.2.2.2.2.2.2.2.1, (a0.2.2.2.2.2.2.2.2.2.2.1, (a0.2.2.2.2.2.2.2.2.2.2.2.1, (a0.2.2.2.2.2.2.2.2.2.2.2.2.1, (a0.2.2.2.2.2.2.2.2.2.2.2.2.2.1, ())))))))))))))), ())
@[reducible] def laws_toStreamS_l1_p : List PE := [.val 0 (.slice 125 (tyStream)) (.u false), .val 3 (.slice 141 (tyStreamx)) (.u true), .val 4 (.int .i64) (.u false)]
def laws_toStreamS_l1_fuel (a0_1 : List TStream) (out3 : List TStreamx) (i4 : Int) : Nat := ((a0_1.length : Int) - i4).toNat + 1
noncomputable def laws_toStreamS_l1 : Nat → List TStream → List TStreamx → Int → Option (List TStreamx × Unit)
  | 0, _, _, _ => none
  | N + 1, a0_1, out3, i4 =>
    bif decide (i4 < (a0_1.length : Int)) then
      guardP (0 ≤ i4 ∧ i4 < a0_1.length) <|
      Option.bind (laws_toStream (a0_1.getD i4.toNat zStream)) fun t20 =>
      guardP (0 ≤ i4 ∧ i4 < out3.length) <|
      laws_toStreamS_l1 N a0_1 (out3.set i4.toNat t20.1) (IntKind.i64.wrap (i4 + (1 : Int)))
    else
      some (out3, ())
noncomputable def laws_toStreamS (a0 : List TStream) : Option (List TStreamx × Unit) :=
  guardP (0 ≤ (a0.length : Int) ∧ (a0.length : Int) ≤ (a0.length : Int) ∧ (a0.length : Int) ≤ capN) <|
  let t7 : List TStreamx := List.replicate (a0.length : Int).toNat zStreamx
  laws_toStreamS_l1 (laws_toStreamS_l1_fuel a0 t7 (0 : Int)) a0 t7 (0 : Int)
noncomputable def laws_toCount (a0 : TCount) : Option (TCount × Unit) :=
  some ((a0.1, (a0.2.1, (a0.2.2.1, ()))), ())
noncomputable def laws_toAllow (a0 : TAllow) : Option (TAllow × Unit) :=
  some ((a0.1, (a0.2.1, (a0.2.2.1, (a0.2.2.2.1, ())))), ())
noncomputable def laws_toFrame (a0 : TFrame) : Option (TFrame × Unit) :=
  some ((a0.1, (a0.2.1, (a0.2.2.1, (a0.2.2.2.1, (a0.2.2.2.2.1, (a0.2.2.2.2.2.1, (a0.2.2.2.2.2.2.1, (a0.2.2.2.2.2.2.2.1, (a0.2.2.2.2.2.2.2.2.1, ()))))))))), ())
@[reducible] def laws_toFrameS_l1_p : List PE := [.val 0 (.slice 174 (tyFrame)) (.u false), .val 3 (.slice 169 (tyFrame)) (.u true), .val 4 (.int .i64) (.u false)]
def laws_toFrameS_l1_fuel (a0_1 : List TFrame) (out3 : List TFrame) (i4 : Int) : Nat := ((a0_1.length : Int) - i4).toNat + 1
noncomputable def laws_toFrameS_l1 : Nat → List TFrame → List TFrame → Int → Option (List TFrame × Unit)
  | 0, _, _, _ => none
  | N + 1, a0_1, out3, i4 =>
    bif decide (i4 < (a0_1.length : Int)) then
      guardP (0 ≤ i4 ∧ i4 < a0_1.length) <|
      Option.bind (laws_toFrame (a0_1.getD i4.toNat zFrame)) fun t20 =>
      guardP (0 ≤ i4 ∧ i4 < out3.length) <|
      laws_toFrameS_l1 N a0_1 (out3.set i4.toNat t20.1) (IntKind.i64.wrap (i4 + (1 : Int)))
    else
      some (out3, ())
noncomputable def laws_toFrameS (a0 : List TFrame) : Option (List TFrame × Unit) :=
  guardP (0 ≤ (a0.length : Int) ∧ (a0.length : Int) ≤ (a0.length : Int) ∧ (a0.length : Int) ≤ capN) <|
  let t7 : List TFrame := List.replicate (a0.length : Int).toNat zFrame
  laws_toFrameS_l1 (laws_toFrameS_l1_fuel a0 t7 (0 : Int)) a0 t7 (0 : Int)
noncomputable def laws_toPacket (a0 : TPacket) : Option (TPacketx × Unit) :=
  Option.bind (laws_toFrameS a0.2.1) fun t9 =>
  some ((a0.1, (t9.1, ())), ())
@[reducible] def laws_toPacketS_l1_p : List PE := [.val 0 (.slice 129 (tyPacket)) (.u false), .val 3 (.slice 145 (tyPacketx)) (.u true), .val 4 (.int .i64) (.u false)]
def laws_toPacketS_l1_fuel (a0_1 : List TPacket) (out3 : List TPacketx) (i4 : Int) : Nat := ((a0_1.length : Int) - i4).toNat + 1
noncomputable def laws_toPacketS_l1 : Nat → List TPacket → List TPacketx → Int → Option (List TPacketx × Unit)
  | 0, _, _, _ => none
  | N + 1, a0_1, out3, i4 =>
    bif decide (i4 < (a0_1.length : Int)) then
      guardP (0 ≤ i4 ∧ i4 < a0_1.length) <|
      Option.bind (laws_toPacket (a0_1.getD i4.toNat zPacket)) fun t20 =>
      guardP (0 ≤ i4 ∧ i4 < out3.length) <|
      laws_toPacketS_l1 N a0_1 (out3.set i4.toNat t20.1) (IntKind.i64.wrap (i4 + (1 : Int)))
    else
      some (out3, ())
noncomputable def laws_toPacketS (a0 : List TPacket) : Option (List TPacketx × Unit) :=
  guardP (0 ≤ (a0.length : Int) ∧ (a0.length : Int) ≤ (a0.length : Int) ∧ (a0.length : Int) ≤ capN) <|
  let t7 : List TPacketx := List.replicate (a0.length : Int).toNat zPacketx
  laws_toPacketS_l1 (laws_toPacketS_l1_fuel a0 t7 (0 : Int)) a0 t7 (0 : Int)
noncomputable def laws_toConn (a0 : TConn) : Option (TConnx × Unit) :=
  Option.bind (laws_toConf a0.2.1) fun t9 =>
  Option.bind (laws_toConf a0.2.2.1) fun t13 =>
  Option.bind (laws_toStreamS a0.2.2.2.1) fun t17 =>
  Option.bind (laws_toCredit a0.2.2.2.2.1) fun t21 =>
  Option.bind (laws_toWindow a0.2.2.2.2.2.1) fun t25 =>
  Option.bind (laws_toCount a0.2.2.2.2.2.2.1) fun t29 =>
  Option.bind (laws_toCount a0.2.2.2.2.2.2.2.1) fun t33 =>
  Option.bind (laws_toAllow a0.2.2.2.2.2.2.2.2.1) fun t37 =>
  Option.bind (laws_toAllow a0.2.2.2.2.2.2.2.2.2.1) fun t41 =>
  Option.bind (laws_toPacketS a0.2.2.2.2.2.2.2.2.2.2.2.2.2.2.2.1) fun t60 =>
  some ((a0.1, (t9.1, (t13.1, (t17.1, (t21.1, (t25.1, (t29.1, (t33.1, (t37.1, (t41.1, (a0.2.2.2.2.2.2.2.2.2.2.1, (a0.2.2.2.2.2.2.2.2.2.2.2.1, (a0.2.2.2.2.2.2.2.2.2.2.2.2.1, (a0.2.2.2.2.2.2.2.2.2.2.2.2.2.1, (a0.2.2.2.2.2.2.2.2.2.2.2.2.2.2.1, (t60.1, (a0.2.2.2.2.2.2.2.2.2.2.2.2.2.2.2.2.1, (a0.2.2.2.2.2.2.2.2.2.2.2.2.2.2.2.2.2.1, ())))))))))))))))))), ())
noncomputable def laws_toLetter (a0 : TLetter) : Option (TLetter × Unit) :=
  some ((a0.1, (a0.2.1, ())), ())
@[reducible] def laws_toLetterS_l1_p : List PE := [.val 0 (.slice 82 (tyLetter)) (.u false), .val 3 (.slice 93 (tyLetter)) (.u true), .val 4 (.int .i64) (.u false)]
def laws_toLetterS_l1_fuel (a0_1 : List TLetter) (out3 : List TLetter) (i4 : Int) : Nat := ((a0_1.length : Int) - i4).toNat + 1
noncomputable def laws_toLetterS_l1 : Nat → List TLetter → List TLetter → Int → Option (List TLetter × Unit)
  | 0, _, _, _ => none
  | N + 1, a0_1, out3, i4 =>
    bif decide (i4 < (a0_1.length : Int)) then
      guardP (0 ≤ i4 ∧ i4 < a0_1.length) <|
      Option.bind (laws_toLetter (a0_1.getD i4.toNat zLetter)) fun t20 =>
      guardP (0 ≤ i4 ∧ i4 < out3.length) <|
      laws_toLetterS_l1 N a0_1 (out3.set i4.toNat t20.1) (IntKind.i64.wrap (i4 + (1 : Int)))
    else
      some (out3, ())
noncomputable def laws_toLetterS (a0 : List TLetter) : Option (List TLetter × Unit) :=
  guardP (0 ≤ (a0.length : Int) ∧ (a0.length : Int) ≤ (a0.length : Int) ∧ (a0.length : Int) ≤ capN) <|
  let t7 : List TLetter := List.replicate (a0.length : Int).toNat zLetter
  laws_toLetterS_l1 (laws_toLetterS_l1_fuel a0 t7 (0 : Int)) a0 t7 (0 : Int)
noncomputable def laws_toTrack (a0 : TTrack) : Option (TTrack × Unit) :=
  some ((a0.1, (a0.2.1, (a0.2.2.1, (a0.2.2.2.1, (a0.2.2.2.2.1, (a0.2.2.2.2.2.1, (a0.2.2.2.2.2.2.1, ()))))))), ())
@[reducible] def laws_toTrackS_l1_p : List PE := [.val 0 (.slice 84 (tyTrack)) (.u false), .val 3 (.slice 67 (tyTrack)) (.u true), .val 4 (.int .i64) (.u false)]
def laws_toTrackS_l1_fuel (a0_1 : List TTrack) (out3 : List TTrack) (i4 : Int) : Nat := ((a0_1.length : Int) - i4).toNat + 1
noncomputable def laws_toTrackS_l1 : Nat → List TTrack → List TTrack → Int → Option (List TTrack × Unit)
  | 0, _, _, _ => none
  | N + 1, a0_1, out3, i4 =>
    bif decide (i4 < (a0_1.length : Int)) then
      guardP (0 ≤ i4 ∧ i4 < a0_1.length) <|
      Option.bind (laws_toTrack (a0_1.getD i4.toNat zTrack)) fun t20 =>
      guardP (0 ≤ i4 ∧ i4 < out3.length) <|
      laws_toTrackS_l1 N a0_1 (out3.set i4.toNat t20.1) (IntKind.i64.wrap (i4 + (1 : Int)))
    else
      some (out3, ())
noncomputable def laws_toTrackS (a0 : List TTrack) : Option (List TTrack × Unit) :=
  guardP (0 ≤ (a0.length : Int) ∧ (a0.length : Int) ≤ (a0.length : Int) ∧ (a0.length : Int) ≤ capN) <|
  let t7 : List TTrack := List.replicate (a0.length : Int).toNat zTrack
  laws_toTrackS_l1 (laws_toTrackS_l1_fuel a0 t7 (0 : Int)) a0 t7 (0 : Int)
noncomputable def laws_toPair (a0 : TPair) : Option (TPairx × Unit) :=
  Option.bind (laws_toConn a0.1) fun t6 =>
  Option.bind (laws_toConn a0.2.1) fun t10 =>
  Option.bind (laws_toLetterS a0.2.2.1) fun t14 =>
  Option.bind (laws_toLetterS a0.2.2.2.1) fun t18 =>
  Option.bind (laws_toTrackS a0.2.2.2.2.1) fun t22 =>
  some ((t6.1, (t10.1, (t14.1, (t18.1, (t22.1, ()))))), ())
noncomputable def spec_l1In (x0 : Int) (low1 : Int) (high2 : Int) : Option (Bool × Unit) :=
  some ((decide (x0 ≥ low1)) && (decide (x0 ≤ high2)), ())
noncomputable def spec_l32Small (n0 : Int) : Option (Bool × Unit) :=
  Option.bind (spec_l1In n0 (0 : Int) (999999999 : Int)) fun t4 =>
  some (t4.1, ())
@[reducible] def spec_FormatInt_j1_p : List PE := [.val 0 (.int .i64) (.u false), .val 3 (.str) (.u false), .val 4 (.bool) (.u false), .val 5 (.int .i64) (.u false)]
noncomputable def spec_FormatInt_j1 (K1 : (Int × List UInt8 × Bool × Unit) → Option (List UInt8 × Unit)) (n0_2 : Int) (out3_2 : List UInt8) (neg4_1 : Bool) (d5 : Int) : Option (List UInt8 × Unit) :=
  let t22 : List UInt8 := bytesOf ([(IntKind.u8.wrap (IntKind.i64.wrap ((48 : Int) + d5)))])
  guardP (t22.length + out3_2.length ≤ capS) <|
  guardP ((10 : Int) ≠ 0) <|
  K1 (IntKind.i64.wrap (Int.tdiv n0_2 (10 : Int)), t22 ++ out3_2, neg4_1, ())
@[reducible] def spec_FormatInt_l1_p : List PE := [.val 0 (.int .i64) (.u false), .val 3 (.str) (.u false), .val 4 (.bool) (.u false)]
def spec_FormatInt_l1_fuel (n0_1 : Int) (out3_1 : List UInt8) (neg4 : Bool) : Nat := 1048577 + (n0_1.toNat - n0_1.toNat)
noncomputable def spec_FormatInt_l1 : Nat → Int → List UInt8 → Bool → Option (List UInt8 × Unit)
  | 0, _, _, _ => none
  | N + 1, n0_1, out3_1, neg4 =>
    bif n0_1 != (0 : Int) then
      guardP ((10 : Int) ≠ 0) <|
      bif decide ((Int.tmod n0_1 (10 : Int)) < (0 : Int)) then
        spec_FormatInt_j1 (fun v => spec_FormatInt_l1 N v.1 v.2.1 v.2.2.1) n0_1 out3_1 neg4 (IntKind.i64.wrap (0 - (Int.tmod n0_1 (10 : Int))))
      else
        spec_FormatInt_j1 (fun v => spec_FormatInt_l1 N v.1 v.2.1 v.2.2.1) n0_1 out3_1 neg4 (Int.tmod n0_1 (10 : Int))
    else
      bif neg4 then
        guardP (([45] : List UInt8).length + out3_1.length ≤ capS) <|
        some (([45] : List UInt8) ++ out3_1, ())
      else
        some (out3_1, ())
noncomputable def spec_FormatInt (n0 : Int) : Option (List UInt8 × Unit) :=
  bif n0 == (0 : Int) then
    some (([48] : List UInt8), ())
  else
    spec_FormatInt_l1 (spec_FormatInt_l1_fuel n0 ([] : List UInt8) (decide (n0 < (0 : Int)))) n0 ([] : List UInt8) (decide (n0 < (0 : Int)))
@[reducible] def spec_TrackLine_j1_p : List PE := [.box 1 67 (tyTrack) (.u false), .val 3 (.str) (.u false)]
noncomputable def spec_TrackLine_j1 (t1 : TTrack) (s3 : List UInt8) : Option (List UInt8 × Unit) :=
  guardP (s3.length + ([32, 119, 114, 111, 116, 101, 32] : List UInt8).length ≤ capS) <|
  let t19 : List UInt8 := s3 ++ ([32, 119, 114, 111, 116, 101, 32] : List UInt8)
  Option.bind (spec_FormatInt (t1.2.2.1.length : Int)) fun t23 =>
  guardP (t19.length + t23.1.length ≤ capS) <|
  guardP ((t19 ++ t23.1).length + ([32, 103, 111, 116, 32] : List UInt8).length ≤ capS) <|
  let t25 : List UInt8 := (t19 ++ t23.1) ++ ([32, 103, 111, 116, 32] : List UInt8)
  Option.bind (spec_FormatInt (t1.2.2.2.1.length : Int)) fun t29 =>
  guardP (t25.length + t29.1.length ≤ capS) <|
  bif t1.2.2.2.2.2.2.1 then
    guardP ((t25 ++ t29.1).length + ([32, 98, 114, 111, 107, 101, 110] : List UInt8).length ≤ capS) <|
    some ((t25 ++ t29.1) ++ ([32, 98, 114, 111, 107, 101, 110] : List UInt8), ())
  else
    bif t1.2.2.2.2.2.1 then
      guardP ((t25 ++ t29.1).length + ([32, 101, 110, 100, 101, 100] : List UInt8).length ≤ capS) <|
      some ((t25 ++ t29.1) ++ ([32, 101, 110, 100, 101, 100] : List UInt8), ())
    else
      some (t25 ++ t29.1, ())
noncomputable def spec_TrackLine (t0 : TTrack) : Option (List UInt8 × Unit) :=
  Option.bind (spec_l32Small t0.1) fun t6 =>
  bif !t6.1 then
    some (([] : List UInt8), ())
  else
    Option.bind (spec_FormatInt t0.1) fun t10 =>
    guardP (t10.1.length + ([32, 98, 121, 32, 99, 108, 105, 101, 110, 116] : List UInt8).length ≤ capS) <|
    bif t0.2.1 then
      Option.bind (spec_FormatInt t0.1) fun t16 =>
      guardP (t16.1.length + ([32, 98, 121, 32, 115, 101, 114, 118, 101, 114] : List UInt8).length ≤ capS) <|
      spec_TrackLine_j1 t0 (t16.1 ++ ([32, 98, 121, 32, 115, 101, 114, 118, 101, 114] : List UInt8))
    else
      spec_TrackLine_j1 t0 (t10.1 ++ ([32, 98, 121, 32, 99, 108, 105, 101, 110, 116] : List UInt8))
@[reducible] def spec_TrackLines_l1_p : List PE := [.box 1 55 (tyPairx) (.u false), .val 3 (.slice 9 (.str)) (.u true), .val 4 (.int .i64) (.u false)]
def spec_TrackLines_l1_fuel (p1 : TPairx) (out3 : List (List UInt8)) (i4 : Int) : Nat := ((p1.2.2.2.2.1.length : Int) - i4).toNat + 1
noncomputable def spec_TrackLines_l1 : Nat → TPairx → List (List UInt8) → Int → Option (List (List UInt8) × Unit)
  | 0, _, _, _ => none
  | N + 1, p1, out3, i4 =>
    bif decide (i4 < (p1.2.2.2.2.1.length : Int)) then
      guardP (0 ≤ i4 ∧ i4 < p1.2.2.2.2.1.length) <|
      Option.bind (spec_TrackLine (p1.2.2.2.2.1.getD i4.toNat zTrack)) fun t19 =>
      guardP (out3.length + ([t19.1]).length ≤ capN) <|
      spec_TrackLines_l1 N p1 (out3 ++ ([t19.1])) (IntKind.i64.wrap (i4 + (1 : Int)))
    else
      some (out3, ())
noncomputable def spec_TrackLines (p0 : TPairx) : Option (List (List UInt8) × Unit) :=
  spec_TrackLines_l1 (spec_TrackLines_l1_fuel p0 ([] : List (List UInt8)) (0 : Int)) p0 ([] : List (List UInt8)) (0 : Int)
noncomputable def impl_within (n0 : Int) (low1 : Int) (high2 : Int) : Option (Bool × Unit) :=
  some ((decide (low1 ≤ n0)) && (decide (n0 ≤ high2)), ())
noncomputable def strconv_Itoa (n : Int) : Option (List UInt8 × Unit) := guardP (-9223372036854775808 ≤ n ∧ n ≤ 9223372036854775807) (some (Go.Lib.itoa n, ()))
noncomputable def impl_FormatInt (n0 : Int) : Option (List UInt8 × Unit) :=
  Option.bind (strconv_Itoa n0) fun t4 =>
  some (t4.1, ())
noncomputable def impl_told (ok0 : Bool) (yes1 : List UInt8) (no2 : List UInt8) : Option (List UInt8 × Unit) :=
  bif ok0 then
    some (yes1, ())
  else
    some (no2, ())
noncomputable def impl_TrackLine (t0 : TTrack) : Option (List UInt8 × Unit) :=
  Option.bind (impl_within t0.1 (0 : Int) (999999999 : Int)) fun t6 =>
  bif !t6.1 then
    some (([] : List UInt8), ())
  else
    Option.bind (impl_FormatInt t0.1) fun t10 =>
    guardP (t10.1.length + ([32, 98, 121, 32] : List UInt8).length ≤ capS) <|
    Option.bind (impl_told t0.2.1 ([115, 101, 114, 118, 101, 114] : List UInt8) ([99, 108, 105, 101, 110, 116] : List UInt8)) fun t14 =>
    guardP ((t10.1 ++ ([32, 98, 121, 32] : List UInt8)).length + t14.1.length ≤ capS) <|
    let t15 : List UInt8 := (t10.1 ++ ([32, 98, 121, 32] : List UInt8)) ++ t14.1
    guardP (t15.length + ([32, 119, 114, 111, 116, 101, 32] : List UInt8).length ≤ capS) <|
    let t16 : List UInt8 := t15 ++ ([32, 119, 114, 111, 116, 101, 32] : List UInt8)
    Option.bind (impl_FormatInt (t0.2.2.1.length : Int)) fun t20 =>
    guardP (t16.length + t20.1.length ≤ capS) <|
    guardP ((t16 ++ t20.1).length + ([32, 103, 111, 116, 32] : List UInt8).length ≤ capS) <|
    let t22 : List UInt8 := (t16 ++ t20.1) ++ ([32, 103, 111, 116, 32] : List UInt8)
    Option.bind (impl_FormatInt (t0.2.2.2.1.length : Int)) fun t26 =>
    guardP (t22.length + t26.1.length ≤ capS) <|
    bif t0.2.2.2.2.2.2.1 then
      guardP ((t22 ++ t26.1).length + ([32, 98, 114, 111, 107, 101, 110] : List UInt8).length ≤ capS) <|
      some ((t22 ++ t26.1) ++ ([32, 98, 114, 111, 107, 101, 110] : List UInt8), ())
    else
      bif t0.2.2.2.2.2.1 then
        guardP ((t22 ++ t26.1).length + ([32, 101, 110, 100, 101, 100] : List UInt8).length ≤ capS) <|
        some ((t22 ++ t26.1) ++ ([32, 101, 110, 100, 101, 100] : List UInt8), ())
      else
        some (t22 ++ t26.1, ())
@[reducible] def impl_TrackLines_l1_p : List PE := [.val 3 (.slice 9 (.str)) (.u true), .val 8 (.slice 67 (tyTrack)) (.u false), .val 9 (.int .i64) (.u false), .val 10 (.int .i64) (.u false)]
def impl_TrackLines_l1_fuel (out3 : List (List UInt8)) (t8 : List TTrack) (t9_1 : Int) (t10 : Int) : Nat := (t9_1 - t10).toNat + 1
noncomputable def impl_TrackLines_l1 : Nat → List (List UInt8) → List TTrack → Int → Int → Option (List (List UInt8) × Unit)
  | 0, _, _, _, _ => none
  | N + 1, out3, t8, t9_1, t10 =>
    bif decide (t10 < t9_1) then
      guardP (0 ≤ t10 ∧ t10 < t8.length) <|
      Option.bind (impl_TrackLine (t8.getD t10.toNat zTrack)) fun t16 =>
      guardP (out3.length + ([t16.1]).length ≤ capN) <|
      impl_TrackLines_l1 N (out3 ++ ([t16.1])) t8 t9_1 (IntKind.i64.wrap (t10 + (1 : Int)))
    else
      some (out3, ())
noncomputable def impl_TrackLines (p0 : TPairx) : Option (List (List UInt8) × Unit) :=
  impl_TrackLines_l1 (impl_TrackLines_l1_fuel ([] : List (List UInt8)) p0.2.2.2.2.1 (p0.2.2.2.2.1.length : Int) (0 : Int)) ([] : List (List UInt8)) p0.2.2.2.2.1 (p0.2.2.2.2.1.length : Int) (0 : Int)
@[reducible] def laws_eqStringS_l1_p : List PE := [.val 0 (.slice 9 (.str)) (.u false), .val 1 (.slice 9 (.str)) (.u false), .val 5 (.int .i64) (.u false)]
def laws_eqStringS_l1_fuel (a0_1 : List (List UInt8)) (b1_1 : List (List UInt8)) (i5 : Int) : Nat := ((a0_1.length : Int) - i5).toNat + 1
noncomputable def laws_eqStringS_l1 : Nat → List (List UInt8) → List (List UInt8) → Int → Option (Bool × Unit)
  | 0, _, _, _ => none
  | N + 1, a0_1, b1_1, i5 =>
    bif decide (i5 < (a0_1.length : Int)) then
      guardP (0 ≤ i5 ∧ i5 < a0_1.length) <|
      guardP (0 ≤ i5 ∧ i5 < b1_1.length) <|
      bif !((a0_1.getD i5.toNat ([] : List UInt8)) == (b1_1.getD i5.toNat ([] : List UInt8))) then
        some (false, ())
      else
        laws_eqStringS_l1 N a0_1 b1_1 (IntKind.i64.wrap (i5 + (1 : Int)))
    else
      some (true, ())
noncomputable def laws_eqStringS (a0 : List (List UInt8)) (b1 : List (List UInt8)) : Option (Bool × Unit) :=
  bif (a0.length : Int) != (b1.length : Int) then
    some (false, ())
  else
    laws_eqStringS_l1 (laws_eqStringS_l1_fuel a0 b1 (0 : Int)) a0 b1 (0 : Int)
noncomputable def laws_eqConf (a0 : TConf) (b1 : TConf) : Option (Bool × Unit) :=
  bif a0.1 != b1.1 then
    some (false, ())
  else
    bif a0.2.1 != b1.2.1 then
      some (false, ())
    else
      bif a0.2.2.1 != b1.2.2.1 then
        some (false, ())
      else
        bif a0.2.2.2.1 != b1.2.2.2.1 then
          some (false, ())
        else
          bif a0.2.2.2.2.1 != b1.2.2.2.2.1 then
            some (false, ())
          else
            bif a0.2.2.2.2.2.1 != b1.2.2.2.2.2.1 then
              some (false, ())
            else
              bif a0.2.2.2.2.2.2.1 != b1.2.2.2.2.2.2.1 then
                some (false, ())
              else
                bif a0.2.2.2.2.2.2.2.1 != b1.2.2.2.2.2.2.2.1 then
                  some (false, ())
                else
                  some (true, ())
@[reducible] def laws_eqIntS_l1_p : List PE := [.val 0 (.slice 3 (.int .i64)) (.u false), .val 1 (.slice 3 (.int .i64)) (.u false), .val 5 (.int .i64) (.u false)]
def laws_eqIntS_l1_fuel (a0_1 : List Int) (b1_1 : List Int) (i5 : Int) : Nat := ((a0_1.length : Int) - i5).toNat + 1
noncomputable def laws_eqIntS_l1 : Nat → List Int → List Int → Int → Option (Bool × Unit)
  | 0, _, _, _ => none
  | N + 1, a0_1, b1_1, i5 =>
    bif decide (i5 < (a0_1.length : Int)) then
      guardP (0 ≤ i5 ∧ i5 < a0_1.length) <|
      guardP (0 ≤ i5 ∧ i5 < b1_1.length) <|
      bif (a0_1.getD i5.toNat (0 : Int)) != (b1_1.getD i5.toNat (0 : Int)) then
        some (false, ())
      else
        laws_eqIntS_l1 N a0_1 b1_1 (IntKind.i64.wrap (i5 + (1 : Int)))
    else
      some (true, ())
noncomputable def laws_eqIntS (a0 : List Int) (b1 : List Int) : Option (Bool × Unit) :=
  bif (a0.length : Int) != (b1.length : Int) then
    some (false, ())
  else
    laws_eqIntS_l1 (laws_eqIntS_l1_fuel a0 b1 (0 : Int)) a0 b1 (0 : Int)
noncomputable def laws_eqRing (a0 : TRing) (b1 : TRing) : Option (Bool × Unit) :=
  bif a0.1 != b1.1 then
    some (false, ())
  else
    bif a0.2.1 != b1.2.1 then
      some (false, ())
    else
      bif a0.2.2.1 != b1.2.2.1 then
        some (false, ())
      else
        Option.bind (laws_eqIntS a0.2.2.2.1 b1.2.2.2.1) fun t24 =>
        bif !t24.1 then
          some (false, ())
        else
          some (true, ())
noncomputable def laws_eqRange (a0 : TRange) (b1 : TRange) : Option (Bool × Unit) :=
  bif a0.1 != b1.1 then
    some (false, ())
  else
    bif a0.2.1 != b1.2.1 then
      some (false, ())
    else
      some (true, ())
@[reducible] def laws_eqRangeS_l1_p : List PE := [.val 0 (.slice 165 (tyRange)) (.u false), .val 1 (.slice 165 (tyRange)) (.u false), .val 5 (.int .i64) (.u false)]
def laws_eqRangeS_l1_fuel (a0_1 : List TRange) (b1_1 : List TRange) (i5 : Int) : Nat := ((a0_1.length : Int) - i5).toNat + 1
noncomputable def laws_eqRangeS_l1 : Nat → List TRange → List TRange → Int → Option (Bool × Unit)
  | 0, _, _, _ => none
  | N + 1, a0_1, b1_1, i5 =>
    bif decide (i5 < (a0_1.length : Int)) then
      guardP (0 ≤ i5 ∧ i5 < a0_1.length) <|
      guardP (0 ≤ i5 ∧ i5 < b1_1.length) <|
      Option.bind (laws_eqRange (a0_1.getD i5.toNat zRange) (b1_1.getD i5.toNat zRange)) fun t25 =>
      bif !t25.1 then
        some (false, ())
      else
        laws_eqRangeS_l1 N a0_1 b1_1 (IntKind.i64.wrap (i5 + (1 : Int)))
    else
      some (true, ())
noncomputable def laws_eqRangeS (a0 : List TRange) (b1 : List TRange) : Option (Bool × Unit) :=
  bif (a0.length : Int) != (b1.length : Int) then
    some (false, ())
  else
    laws_eqRangeS_l1 (laws_eqRangeS_l1_fuel a0 b1 (0 : Int)) a0 b1 (0 : Int)
noncomputable def laws_eqSender (a0 : TSenderx) (b1 : TSenderx) : Option (Bool × Unit) :=
  bif a0.1 != b1.1 then
    some (false, ())
  else
    Option.bind (laws_eqRing a0.2.1 b1.2.1) fun t14 =>
    bif !t14.1 then
      some (false, ())
    else
      Option.bind (laws_eqRangeS a0.2.2.1 b1.2.2.1) fun t20 =>
      bif !t20.1 then
        some (false, ())
      else
        Option.bind (laws_eqRangeS a0.2.2.2.1 b1.2.2.2.1) fun t26 =>
        bif !t26.1 then
          some (false, ())
        else
          Option.bind (laws_eqRangeS a0.2.2.2.2.1 b1.2.2.2.2.1) fun t32 =>
          bif !t32.1 then
            some (false, ())
          else
            bif a0.2.2.2.2.2.1 != b1.2.2.2.2.2.1 then
              some (false, ())
            else
              bif a0.2.2.2.2.2.2.1 != b1.2.2.2.2.2.2.1 then
                some (false, ())
              else
                bif a0.2.2.2.2.2.2.2.1 != b1.2.2.2.2.2.2.2.1 then
                  some (false, ())
                else
                  bif a0.2.2.2.2.2.2.2.2.1 != b1.2.2.2.2.2.2.2.2.1 then
                    some (false, ())
                  else
                    some (true, ())
noncomputable def laws_eqCredit (a0 : TAllow) (b1 : TAllow) : Option (Bool × Unit) :=
  bif a0.1 != b1.1 then
    some (false, ())
  else
    bif a0.2.1 != b1.2.1 then
      some (false, ())
    else
      bif a0.2.2.1 != b1.2.2.1 then
        some (false, ())
      else
        bif a0.2.2.2.1 != b1.2.2.2.1 then
          some (false, ())
        else
          some (true, ())
noncomputable def laws_eqChunk (a0 : TLetter) (b1 : TLetter) : Option (Bool × Unit) :=
  bif a0.1 != b1.1 then
    some (false, ())
  else
    bif !(a0.2.1 == b1.2.1) then
      some (false, ())
    else
      some (true, ())
@[reducible] def laws_eqChunkS_l1_p : List PE := [.val 0 (.slice 167 (tyLetter)) (.u false), .val 1 (.slice 167 (tyLetter)) (.u false), .val 5 (.int .i64) (.u false)]
def laws_eqChunkS_l1_fuel (a0_1 : List TLetter) (b1_1 : List TLetter) (i5 : Int) : Nat := ((a0_1.length : Int) - i5).toNat + 1
noncomputable def laws_eqChunkS_l1 : Nat → List TLetter → List TLetter → Int → Option (Bool × Unit)
  | 0, _, _, _ => none
  | N + 1, a0_1, b1_1, i5 =>
    bif decide (i5 < (a0_1.length : Int)) then
      guardP (0 ≤ i5 ∧ i5 < a0_1.length) <|
      guardP (0 ≤ i5 ∧ i5 < b1_1.length) <|
      Option.bind (laws_eqChunk (a0_1.getD i5.toNat zLetter) (b1_1.getD i5.toNat zLetter)) fun t25 =>
      bif !t25.1 then
        some (false, ())
      else
        laws_eqChunkS_l1 N a0_1 b1_1 (IntKind.i64.wrap (i5 + (1 : Int)))
    else
      some (true, ())
noncomputable def laws_eqChunkS (a0 : List TLetter) (b1 : List TLetter) : Option (Bool × Unit) :=
  bif (a0.length : Int) != (b1.length : Int) then
    some (false, ())
  else
    laws_eqChunkS_l1 (laws_eqChunkS_l1_fuel a0 b1 (0 : Int)) a0 b1 (0 : Int)
noncomputable def laws_eqBuffer (a0 : TBufferx) (b1 : TBufferx) : Option (Bool × Unit) :=
  bif a0.1 != b1.1 then
    some (false, ())
  else
    Option.bind (laws_eqChunkS a0.2.1 b1.2.1) fun t14 =>
    bif !t14.1 then
      some (false, ())
    else
      some (true, ())
noncomputable def laws_eqReceiver (a0 : TReceiverx) (b1 : TReceiverx) : Option (Bool × Unit) :=
  bif a0.1 != b1.1 then
    some (false, ())
  else
    Option.bind (laws_eqBuffer a0.2.1 b1.2.1) fun t14 =>
    bif !t14.1 then
      some (false, ())
    else
      bif a0.2.2.1 != b1.2.2.1 then
        some (false, ())
      else
        bif a0.2.2.2.1 != b1.2.2.2.1 then
          some (false, ())
        else
          bif a0.2.2.2.2.1 != b1.2.2.2.2.1 then
            some (false, ())
          else
            some (true, ())
noncomputable def laws_eqWindow (a0 : TWindow) (b1 : TWindow) : Option (Bool × Unit) :=
  bif a0.1 != b1.1 then
    some (false, ())
  else
    bif a0.2.1 != b1.2.1 then
      some (false, ())
    else
      bif a0.2.2.1 != b1.2.2.1 then
        some (false, ())
      else
        bif a0.2.2.2.1 != b1.2.2.2.1 then
          some (false, ())
        else
          bif a0.2.2.2.2.1 != b1.2.2.2.2.1 then
            some (false, ())
          else
            bif a0.2.2.2.2.2.1 != b1.2.2.2.2.2.1 then
              some (false, ())
            else
              some (true, ())
noncomputable def laws_eqPriority (a0 : TPriority) (b1 : TPriority) : Option (Bool × Unit) :=
  bif a0.1 != b1.1 then
    some (false, ())
  else
    bif !(a0.2.1 == b1.2.1) then
      some (false, ())
    else
      some (true, ())
noncomputable def laws_eqStream (a0 : TStreamx) (b1 : TStreamx) : Option (Bool × Unit) :=
  bif a0.1 != b1.1 then
    some (false, ())
  else
    Option.bind (laws_eqSender a0.2.1 b1.2.1) fun t14 =>
    bif !t14.1 then
      some (false, ())
    else
      Option.bind (laws_eqCredit a0.2.2.1 b1.2.2.1) fun t20 =>
      bif !t20.1 then
        some (false, ())
      else
        Option.bind (laws_eqReceiver a0.2.2.2.1 b1.2.2.2.1) fun t26 =>
        bif !t26.1 then
          some (false, ())
        else
          Option.bind (laws_eqWindow a0.2.2.2.2.1 b1.2.2.2.2.1) fun t32 =>
          bif !t32.1 then
            some (false, ())
          else
            Option.bind (laws_eqPriority a0.2.2.2.2.2.1 b1.2.2.2.2.2.1) fun t38 =>
            bif !t38.1 then
              some (false, ())
            else
              bif !(a0.2.2.2.2.2.2.1 == b1.2.2.2.2.2.2.1) then
                some (false, ())
              else
                bif !(a0.2.2.2.2.2.2.2.1 == b1.2.2.2.2.2.2.2.1) then
                  some (false, ())
                else
                  bif !(a0.2.2.2.2.2.2.2.2.1 == b1.2.2.2.2.2.2.2.2.1) then
                    some (false, ())
                  else
                    bif !(a0.2.2.2.2.2.2.2.2.2.1 == b1.2.2.2.2.2.2.2.2.2.1) then
                      some (false, ())
                    else
                      bif !(a0.2.2.2.2.2.2.2.2.2.2.1 == b1.2.2.2.2.2.2.2.2.2.2.1) then
                        some (false, ())
                      else
                        bif !(a0.2.2.2.2.2.2.2.2.2.2.2.1 == b1.2.2.2.2.2.2.2.2.2.2.2.1) then
                          some (false, ())
                        else
                          bif a0.2.2.2.2.2.2.2.2.2.2.2.2.1 != b1.2.2.2.2.2.2.2.2.2.2.2.2.1 then
                            some (false, ())
                          else
                            bif !(a0.2.2.2.2.2.2.2.2.2.2.2.2.2.1 == b1.2.2.2.2.2.2.2.2.2.2.2.2.2.1) then
                              some (false, ())
                            else
                              some (true, ())
@[reducible] def laws_eqStreamS_l1_p : List PE := [.val 0 (.slice 141 (tyStreamx)) (.u false), .val 1 (.slice 141 (tyStreamx)) (.u false), .val 5 (.int .i64) (.u false)]
def laws_eqStreamS_l1_fuel (a0_1 : List TStreamx) (b1_1 : List TStreamx) (i5 : Int) : Nat := ((a0_1.length : Int) - i5).toNat + 1
noncomputable def laws_eqStreamS_l1 : Nat → List TStreamx → List TStreamx → Int → Option (Bool × Unit)
  | 0, _, _, _ => none
  | N + 1, a0_1, b1_1, i5 =>
    bif decide (i5 < (a0_1.length : Int)) then
      guardP (0 ≤ i5 ∧ i5 < a0_1.length) <|
      guardP (0 ≤ i5 ∧ i5 < b1_1.length) <|
      Option.bind (laws_eqStream (a0_1.getD i5.toNat zStreamx) (b1_1.getD i5.toNat zStreamx)) fun t25 =>
      bif !t25.1 then
        some (false, ())
      else
        laws_eqStreamS_l1 N a0_1 b1_1 (IntKind.i64.wrap (i5 + (1 : Int)))
    else
      some (true, ())
noncomputable def laws_eqStreamS (a0 : List TStreamx) (b1 : List TStreamx) : Option (Bool × Unit) :=
  bif (a0.length : Int) != (b1.length : Int) then
    some (false, ())
  else
    laws_eqStreamS_l1 (laws_eqStreamS_l1_fuel a0 b1 (0 : Int)) a0 b1 (0 : Int)
noncomputable def laws_eqCount (a0 : TCount) (b1 : TCount) : Option (Bool × Unit) :=
  bif a0.1 != b1.1 then
    some (false, ())
  else
    bif a0.2.1 != b1.2.1 then
      some (false, ())
    else
      bif a0.2.2.1 != b1.2.2.1 then
        some (false, ())
      else
        some (true, ())
noncomputable def laws_eqAllow (a0 : TAllow) (b1 : TAllow) : Option (Bool × Unit) :=
  bif a0.1 != b1.1 then
    some (false, ())
  else
    bif a0.2.1 != b1.2.1 then
      some (false, ())
    else
      bif a0.2.2.1 != b1.2.2.1 then
        some (false, ())
      else
        bif a0.2.2.2.1 != b1.2.2.2.1 then
          some (false, ())
        else
          some (true, ())
noncomputable def laws_eqFrame (a0 : TFrame) (b1 : TFrame) : Option (Bool × Unit) :=
  bif a0.1 != b1.1 then
    some (false, ())
  else
    bif a0.2.1 != b1.2.1 then
      some (false, ())
    else
      bif a0.2.2.1 != b1.2.2.1 then
        some (false, ())
      else
        bif !(a0.2.2.2.1 == b1.2.2.2.1) then
          some (false, ())
        else
          bif !(a0.2.2.2.2.1 == b1.2.2.2.2.1) then
            some (false, ())
          else
            bif a0.2.2.2.2.2.1 != b1.2.2.2.2.2.1 then
              some (false, ())
            else
              bif a0.2.2.2.2.2.2.1 != b1.2.2.2.2.2.2.1 then
                some (false, ())
              else
                bif a0.2.2.2.2.2.2.2.1 != b1.2.2.2.2.2.2.2.1 then
                  some (false, ())
                else
                  bif !(a0.2.2.2.2.2.2.2.2.1 == b1.2.2.2.2.2.2.2.2.1) then
                    some (false, ())
                  else
                    some (true, ())
@[reducible] def laws_eqFrameS_l1_p : List PE := [.val 0 (.slice 169 (tyFrame)) (.u false), .val 1 (.slice 169 (tyFrame)) (.u false), .val 5 (.int .i64) (.u false)]
def laws_eqFrameS_l1_fuel (a0_1 : List TFrame) (b1_1 : List TFrame) (i5 : Int) : Nat := ((a0_1.length : Int) - i5).toNat + 1
noncomputable def laws_eqFrameS_l1 : Nat → List TFrame → List TFrame → Int → Option (Bool × Unit)
  | 0, _, _, _ => none
  | N + 1, a0_1, b1_1, i5 =>
    bif decide (i5 < (a0_1.length : Int)) then
      guardP (0 ≤ i5 ∧ i5 < a0_1.length) <|
      guardP (0 ≤ i5 ∧ i5 < b1_1.length) <|
      Option.bind (laws_eqFrame (a0_1.getD i5.toNat zFrame) (b1_1.getD i5.toNat zFrame)) fun t25 =>
      bif !t25.1 then
        some (false, ())
      else
        laws_eqFrameS_l1 N a0_1 b1_1 (IntKind.i64.wrap (i5 + (1 : Int)))
    else
      some (true, ())
noncomputable def laws_eqFrameS (a0 : List TFrame) (b1 : List TFrame) : Option (Bool × Unit) :=
  bif (a0.length : Int) != (b1.length : Int) then
    some (false, ())
  else
    laws_eqFrameS_l1 (laws_eqFrameS_l1_fuel a0 b1 (0 : Int)) a0 b1 (0 : Int)
noncomputable def laws_eqPacket (a0 : TPacketx) (b1 : TPacketx) : Option (Bool × Unit) :=
  bif a0.1 != b1.1 then
    some (false, ())
  else
    Option.bind (laws_eqFrameS a0.2.1 b1.2.1) fun t14 =>
    bif !t14.1 then
      some (false, ())
    else
      some (true, ())
@[reducible] def laws_eqPacketS_l1_p : List PE := [.val 0 (.slice 145 (tyPacketx)) (.u false), .val 1 (.slice 145 (tyPacketx)) (.u false), .val 5 (.int .i64) (.u false)]
def laws_eqPacketS_l1_fuel (a0_1 : List TPacketx) (b1_1 : List TPacketx) (i5 : Int) : Nat := ((a0_1.length : Int) - i5).toNat + 1
noncomputable def laws_eqPacketS_l1 : Nat → List TPacketx → List TPacketx → Int → Option (Bool × Unit)
  | 0, _, _, _ => none
  | N + 1, a0_1, b1_1, i5 =>
    bif decide (i5 < (a0_1.length : Int)) then
      guardP (0 ≤ i5 ∧ i5 < a0_1.length) <|
      guardP (0 ≤ i5 ∧ i5 < b1_1.length) <|
      Option.bind (laws_eqPacket (a0_1.getD i5.toNat zPacketx) (b1_1.getD i5.toNat zPacketx)) fun t25 =>
      bif !t25.1 then
        some (false, ())
      else
        laws_eqPacketS_l1 N a0_1 b1_1 (IntKind.i64.wrap (i5 + (1 : Int)))
    else
      some (true, ())
noncomputable def laws_eqPacketS (a0 : List TPacketx) (b1 : List TPacketx) : Option (Bool × Unit) :=
  bif (a0.length : Int) != (b1.length : Int) then
    some (false, ())
  else
    laws_eqPacketS_l1 (laws_eqPacketS_l1_fuel a0 b1 (0 : Int)) a0 b1 (0 : Int)
noncomputable def laws_eqConn (a0 : TConnx) (b1 : TConnx) : Option (Bool × Unit) :=
  bif !(a0.1 == b1.1) then
    some (false, ())
  else
    Option.bind (laws_eqConf a0.2.1 b1.2.1) fun t14 =>
    bif !t14.1 then
      some (false, ())
    else
      Option.bind (laws_eqConf a0.2.2.1 b1.2.2.1) fun t20 =>
      bif !t20.1 then
        some (false, ())
      else
        Option.bind (laws_eqStreamS a0.2.2.2.1 b1.2.2.2.1) fun t26 =>
        bif !t26.1 then
          some (false, ())
        else
          Option.bind (laws_eqCredit a0.2.2.2.2.1 b1.2.2.2.2.1) fun t32 =>
          bif !t32.1 then
            some (false, ())
          else
            Option.bind (laws_eqWindow a0.2.2.2.2.2.1 b1.2.2.2.2.2.1) fun t38 =>
            bif !t38.1 then
              some (false, ())
            else
              Option.bind (laws_eqCount a0.2.2.2.2.2.2.1 b1.2.2.2.2.2.2.1) fun t44 =>
              bif !t44.1 then
                some (false, ())
              else
                Option.bind (laws_eqCount a0.2.2.2.2.2.2.2.1 b1.2.2.2.2.2.2.2.1) fun t50 =>
                bif !t50.1 then
                  some (false, ())
                else
                  Option.bind (laws_eqAllow a0.2.2.2.2.2.2.2.2.1 b1.2.2.2.2.2.2.2.2.1) fun t56 =>
                  bif !t56.1 then
                    some (false, ())
                  else
                    Option.bind (laws_eqAllow a0.2.2.2.2.2.2.2.2.2.1 b1.2.2.2.2.2.2.2.2.2.1) fun t62 =>
                    bif !t62.1 then
                      some (false, ())
                    else
                      bif !(a0.2.2.2.2.2.2.2.2.2.2.1 == b1.2.2.2.2.2.2.2.2.2.2.1) then
                        some (false, ())
                      else
                        bif !(a0.2.2.2.2.2.2.2.2.2.2.2.1 == b1.2.2.2.2.2.2.2.2.2.2.2.1) then
                          some (false, ())
                        else
                          bif !(a0.2.2.2.2.2.2.2.2.2.2.2.2.1 == b1.2.2.2.2.2.2.2.2.2.2.2.2.1) then
                            some (false, ())
                          else
                            bif a0.2.2.2.2.2.2.2.2.2.2.2.2.2.1 != b1.2.2.2.2.2.2.2.2.2.2.2.2.2.1 then
                              some (false, ())
                            else
                              bif a0.2.2.2.2.2.2.2.2.2.2.2.2.2.2.1 != b1.2.2.2.2.2.2.2.2.2.2.2.2.2.2.1 then
                                some (false, ())
                              else
                                Option.bind (laws_eqPacketS a0.2.2.2.2.2.2.2.2.2.2.2.2.2.2.2.1 b1.2.2.2.2.2.2.2.2.2.2.2.2.2.2.2.1) fun t93 =>
                                bif !t93.1 then
                                  some (false, ())
                                else
                                  bif a0.2.2.2.2.2.2.2.2.2.2.2.2.2.2.2.2.1 != b1.2.2.2.2.2.2.2.2.2.2.2.2.2.2.2.2.1 then
                                    some (false, ())
                                  else
                                    bif a0.2.2.2.2.2.2.2.2.2.2.2.2.2.2.2.2.2.1 != b1.2.2.2.2.2.2.2.2.2.2.2.2.2.2.2.2.2.1 then
                                      some (false, ())
                                    else
                                      some (true, ())
noncomputable def laws_eqLetter (a0 : TLetter) (b1 : TLetter) : Option (Bool × Unit) :=
  bif a0.1 != b1.1 then
    some (false, ())
  else
    bif !(a0.2.1 == b1.2.1) then
      some (false, ())
    else
      some (true, ())
@[reducible] def laws_eqLetterS_l1_p : List PE := [.val 0 (.slice 93 (tyLetter)) (.u false), .val 1 (.slice 93 (tyLetter)) (.u false), .val 5 (.int .i64) (.u false)]
def laws_eqLetterS_l1_fuel (a0_1 : List TLetter) (b1_1 : List TLetter) (i5 : Int) : Nat := ((a0_1.length : Int) - i5).toNat + 1
noncomputable def laws_eqLetterS_l1 : Nat → List TLetter → List TLetter → Int → Option (Bool × Unit)
  | 0, _, _, _ => none
  | N + 1, a0_1, b1_1, i5 =>
    bif decide (i5 < (a0_1.length : Int)) then
      guardP (0 ≤ i5 ∧ i5 < a0_1.length) <|
      guardP (0 ≤ i5 ∧ i5 < b1_1.length) <|
      Option.bind (laws_eqLetter (a0_1.getD i5.toNat zLetter) (b1_1.getD i5.toNat zLetter)) fun t25 =>
      bif !t25.1 then
        some (false, ())
      else
        laws_eqLetterS_l1 N a0_1 b1_1 (IntKind.i64.wrap (i5 + (1 : Int)))
    else
      some (true, ())
noncomputable def laws_eqLetterS (a0 : List TLetter) (b1 : List TLetter) : Option (Bool × Unit) :=
  bif (a0.length : Int) != (b1.length : Int) then
    some (false, ())
  else
    laws_eqLetterS_l1 (laws_eqLetterS_l1_fuel a0 b1 (0 : Int)) a0 b1 (0 : Int)
noncomputable def laws_eqTrack (a0 : TTrack) (b1 : TTrack) : Option (Bool × Unit) :=
  bif a0.1 != b1.1 then
    some (false, ())
  else
    bif !(a0.2.1 == b1.2.1) then
      some (false, ())
    else
      bif !(a0.2.2.1 == b1.2.2.1) then
        some (false, ())
      else
        bif !(a0.2.2.2.1 == b1.2.2.2.1) then
          some (false, ())
        else
          bif !(a0.2.2.2.2.1 == b1.2.2.2.2.1) then
            some (false, ())
          else
            bif !(a0.2.2.2.2.2.1 == b1.2.2.2.2.2.1) then
              some (false, ())
            else
              bif !(a0.2.2.2.2.2.2.1 == b1.2.2.2.2.2.2.1) then
                some (false, ())
              else
                some (true, ())
@[reducible] def laws_eqTrackS_l1_p : List PE := [.val 0 (.slice 67 (tyTrack)) (.u false), .val 1 (.slice 67 (tyTrack)) (.u false), .val 5 (.int .i64) (.u false)]
def laws_eqTrackS_l1_fuel (a0_1 : List TTrack) (b1_1 : List TTrack) (i5 : Int) : Nat := ((a0_1.length : Int) - i5).toNat + 1
noncomputable def laws_eqTrackS_l1 : Nat → List TTrack → List TTrack → Int → Option (Bool × Unit)
  | 0, _, _, _ => none
  | N + 1, a0_1, b1_1, i5 =>
    bif decide (i5 < (a0_1.length : Int)) then
      guardP (0 ≤ i5 ∧ i5 < a0_1.length) <|
      guardP (0 ≤ i5 ∧ i5 < b1_1.length) <|
      Option.bind (laws_eqTrack (a0_1.getD i5.toNat zTrack) (b1_1.getD i5.toNat zTrack)) fun t25 =>
      bif !t25.1 then
        some (false, ())
      else
        laws_eqTrackS_l1 N a0_1 b1_1 (IntKind.i64.wrap (i5 + (1 : Int)))
    else
      some (true, ())
noncomputable def laws_eqTrackS (a0 : List TTrack) (b1 : List TTrack) : Option (Bool × Unit) :=
  bif (a0.length : Int) != (b1.length : Int) then
    some (false, ())
  else
    laws_eqTrackS_l1 (laws_eqTrackS_l1_fuel a0 b1 (0 : Int)) a0 b1 (0 : Int)
noncomputable def laws_eqPair (a0 : TPairx) (b1 : TPairx) : Option (Bool × Unit) :=
  Option.bind (laws_eqConn a0.1 b1.1) fun t9 =>
  bif !t9.1 then
    some (false, ())
  else
    Option.bind (laws_eqConn a0.2.1 b1.2.1) fun t15 =>
    bif !t15.1 then
      some (false, ())
    else
      Option.bind (laws_eqLetterS a0.2.2.1 b1.2.2.1) fun t21 =>
      bif !t21.1 then
        some (false, ())
      else
        Option.bind (laws_eqLetterS a0.2.2.2.1 b1.2.2.2.1) fun t27 =>
        bif !t27.1 then
          some (false, ())
        else
          Option.bind (laws_eqTrackS a0.2.2.2.2.1 b1.2.2.2.2.1) fun t33 =>
          bif !t33.1 then
            some (false, ())
          else
            some (true, ())
@[reducible] def laws_markIntSW_l1_p : List PE := [.val 0 (.slice 3 (.hid (.int .i64))) (.u false), .val 1 (.int .i64) (.u false), .val 5 (.int .i64) (.u false)]
def laws_markIntSW_l1_fuel (a0_1 : List Unit) (k1_1 : Int) (i5 : Int) : Nat := ((a0_1.length : Int) - i5).toNat + 1
noncomputable def laws_markIntSW_l1 : Nat → List Unit → Int → Int → Option (Int × Unit)
  | 0, _, _, _ => none
  | N + 1, a0_1, k1_1, i5 =>
    bif decide (i5 < (a0_1.length : Int)) then
      guardP (0 ≤ i5 ∧ i5 < a0_1.length) <|
      laws_markIntSW_l1 N a0_1 (IntKind.i64.wrap (k1_1 + (1 : Int))) (IntKind.i64.wrap (i5 + (1 : Int)))
    else
      some (k1_1, ())
noncomputable def laws_markIntSW (a0 : List Unit) (k1 : Int) : Option (Int × Unit) :=
  laws_markIntSW_l1 (laws_markIntSW_l1_fuel a0 k1 (0 : Int)) a0 k1 (0 : Int)
@[reducible] def laws_markRangeSW_l1_p : List PE := [.val 0 (.slice 165 (tyRangeH)) (.u false), .val 1 (.int .i64) (.u false), .val 5 (.int .i64) (.u false)]
def laws_markRangeSW_l1_fuel (a0_1 : List TRangeH) (k1_1 : Int) (i5 : Int) : Nat := ((a0_1.length : Int) - i5).toNat + 1
noncomputable def laws_markRangeSW_l1 : Nat → List TRangeH → Int → Int → Option (Int × Unit)
  | 0, _, _, _ => none
  | N + 1, a0_1, k1_1, i5 =>
    bif decide (i5 < (a0_1.length : Int)) then
      guardP (0 ≤ i5 ∧ i5 < a0_1.length) <|
      guardP (0 ≤ i5 ∧ i5 < a0_1.length) <|
      laws_markRangeSW_l1 N a0_1 (IntKind.i64.wrap ((IntKind.i64.wrap (k1_1 + (1 : Int))) + (1 : Int))) (IntKind.i64.wrap (i5 + (1 : Int)))
    else
      some (k1_1, ())
noncomputable def laws_markRangeSW (a0 : List TRangeH) (k1 : Int) : Option (Int × Unit) :=
  laws_markRangeSW_l1 (laws_markRangeSW_l1_fuel a0 k1 (0 : Int)) a0 k1 (0 : Int)
@[reducible] def laws_markText_l1_p : List PE := [.val 0 (.int .i64) (.u false), .val 3 (.str) (.u false)]
def laws_markText_l1_fuel (k0_1 : Int) (out3_1 : List UInt8) : Nat := (k0_1 - (0 : Int)).toNat + 1
noncomputable def laws_markText_l1 : Nat → Int → List UInt8 → Option (List UInt8 × Unit)
  | 0, _, _ => none
  | N + 1, k0_1, out3_1 =>
    bif decide (k0_1 > (0 : Int)) then
      guardP ((10 : Int) ≠ 0) <|
      let t13 : List UInt8 := bytesOf ([(IntKind.u8.wrap (IntKind.i64.wrap ((48 : Int) + (Int.tmod k0_1 (10 : Int)))))])
      guardP (t13.length + out3_1.length ≤ capS) <|
      guardP ((10 : Int) ≠ 0) <|
      laws_markText_l1 N (IntKind.i64.wrap (Int.tdiv k0_1 (10 : Int))) (t13 ++ out3_1)
    else
      guardP (([109] : List UInt8).length + out3_1.length ≤ capS) <|
      some (([109] : List UInt8) ++ out3_1, ())
noncomputable def laws_markText (k0 : Int) : Option (List UInt8 × Unit) :=
  bif decide (k0 ≤ (0 : Int)) then
    some (([109, 48] : List UInt8), ())
  else
    laws_markText_l1 (laws_markText_l1_fuel k0 ([] : List UInt8)) k0 ([] : List UInt8)
@[reducible] def laws_markChunkSW_l1_p : List PE := [.val 0 (.slice 167 (tyLetterH)) (.u false), .val 1 (.int .i64) (.u false), .val 5 (.int .i64) (.u false)]
def laws_markChunkSW_l1_fuel (a0_1 : List TLetterH) (k1_1 : Int) (i5 : Int) : Nat := ((a0_1.length : Int) - i5).toNat + 1
noncomputable def laws_markChunkSW_l1 : Nat → List TLetterH → Int → Int → Option (Int × Unit)
  | 0, _, _, _ => none
  | N + 1, a0_1, k1_1, i5 =>
    bif decide (i5 < (a0_1.length : Int)) then
      guardP (0 ≤ i5 ∧ i5 < a0_1.length) <|
      Option.bind (laws_markText (IntKind.i64.wrap (k1_1 + (1 : Int)))) fun t22 =>
      guardP (0 ≤ i5 ∧ i5 < a0_1.length) <|
      laws_markChunkSW_l1 N a0_1 (IntKind.i64.wrap ((IntKind.i64.wrap (k1_1 + (1 : Int))) + (1 : Int))) (IntKind.i64.wrap (i5 + (1 : Int)))
    else
      some (k1_1, ())
noncomputable def laws_markChunkSW (a0 : List TLetterH) (k1 : Int) : Option (Int × Unit) :=
  laws_markChunkSW_l1 (laws_markChunkSW_l1_fuel a0 k1 (0 : Int)) a0 k1 (0 : Int)
@[reducible] def laws_markStreamSW_l1_p : List PE := [.val 0 (.slice 141 (tyStreamxH)) (.u false), .val 1 (.int .i64) (.u false), .val 5 (.int .i64) (.u false)]
def laws_markStreamSW_l1_fuel (a0_1 : List TStreamxH) (k1_1 : Int) (i5 : Int) : Nat := ((a0_1.length : Int) - i5).toNat + 1
noncomputable def laws_markStreamSW_l1 : Nat → List TStreamxH → Int → Int → Option (Int × Unit)
  | 0, _, _, _ => none
  | N + 1, a0_1, k1_1, i5 =>
    bif decide (i5 < (a0_1.length : Int)) then
      guardP (0 ≤ i5 ∧ i5 < a0_1.length) <|
      guardP (0 ≤ i5 ∧ i5 < a0_1.length) <|
      guardP (0 ≤ i5 ∧ i5 < a0_1.length) <|
      guardP (0 ≤ i5 ∧ i5 < a0_1.length) <|
      guardP (0 ≤ i5 ∧ i5 < a0_1.length) <|
      guardP (0 ≤ i5 ∧ i5 < a0_1.length) <|
      Option.bind (laws_markIntSW (a0_1.getD i5.toNat zStreamxH).2.1.2.1.2.2.2.1 (IntKind.i64.wrap ((IntKind.i64.wrap ((IntKind.i64.wrap ((IntKind.i64.wrap ((IntKind.i64.wrap (k1_1 + (1 : Int))) + (1 : Int))) + (1 : Int))) + (1 : Int))) + (1 : Int)))) fun t62 =>
      guardP (0 ≤ i5 ∧ i5 < a0_1.length) <|
      Option.bind (laws_markRangeSW (a0_1.getD i5.toNat zStreamxH).2.1.2.2.1 t62.1) fun t70 =>
      guardP (0 ≤ i5 ∧ i5 < a0_1.length) <|
      Option.bind (laws_markRangeSW (a0_1.getD i5.toNat zStreamxH).2.1.2.2.2.1 t70.1) fun t78 =>
      guardP (0 ≤ i5 ∧ i5 < a0_1.length) <|
      Option.bind (laws_markRangeSW (a0_1.getD i5.toNat zStreamxH).2.1.2.2.2.2.1 t78.1) fun t86 =>
      guardP (0 ≤ i5 ∧ i5 < a0_1.length) <|
      guardP (0 ≤ i5 ∧ i5 < a0_1.length) <|
      guardP (0 ≤ i5 ∧ i5 < a0_1.length) <|
      guardP (0 ≤ i5 ∧ i5 < a0_1.length) <|
      guardP (0 ≤ i5 ∧ i5 < a0_1.length) <|
      guardP (0 ≤ i5 ∧ i5 < a0_1.length) <|
      guardP (0 ≤ i5 ∧ i5 < a0_1.length) <|
      guardP (0 ≤ i5 ∧ i5 < a0_1.length) <|
      guardP (0 ≤ i5 ∧ i5 < a0_1.length) <|
      guardP (0 ≤ i5 ∧ i5 < a0_1.length) <|
      guardP (0 ≤ i5 ∧ i5 < a0_1.length) <|
      Option.bind (laws_markChunkSW (a0_1.getD i5.toNat zStreamxH).2.2.2.1.2.1.2.1 (IntKind.i64.wrap ((IntKind.i64.wrap ((IntKind.i64.wrap ((IntKind.i64.wrap ((IntKind.i64.wrap ((IntKind.i64.wrap ((IntKind.i64.wrap ((IntKind.i64.wrap ((IntKind.i64.wrap ((IntKind.i64.wrap (t86.1 + (1 : Int))) + (1 : Int))) + (1 : Int))) + (1 : Int))) + (1 : Int))) + (1 : Int))) + (1 : Int))) + (1 : Int))) + (1 : Int))) + (1 : Int)))) fun t176 =>
      guardP (0 ≤ i5 ∧ i5 < a0_1.length) <|
      guardP (0 ≤ i5 ∧ i5 < a0_1.length) <|
      guardP (0 ≤ i5 ∧ i5 < a0_1.length) <|
      guardP (0 ≤ i5 ∧ i5 < a0_1.length) <|
      guardP (0 ≤ i5 ∧ i5 < a0_1.length) <|
      guardP (0 ≤ i5 ∧ i5 < a0_1.length) <|
      guardP (0 ≤ i5 ∧ i5 < a0_1.length) <|
      guardP (0 ≤ i5 ∧ i5 < a0_1.length) <|
      guardP (0 ≤ i5 ∧ i5 < a0_1.length) <|
      guardP (0 ≤ i5 ∧ i5 < a0_1.length) <|
      let t256 : Int := IntKind.i64.wrap ((IntKind.i64.wrap ((IntKind.i64.wrap ((IntKind.i64.wrap ((IntKind.i64.wrap ((IntKind.i64.wrap ((IntKind.i64.wrap ((IntKind.i64.wrap ((IntKind.i64.wrap ((IntKind.i64.wrap (t176.1 + (1 : Int))) + (1 : Int))) + (1 : Int))) + (1 : Int))) + (1 : Int))) + (1 : Int))) + (1 : Int))) + (1 : Int))) + (1 : Int))) + (1 : Int))
      guardP ((3 : Int) ≠ 0) <|
      guardP (0 ≤ i5 ∧ i5 < a0_1.length) <|
      guardP ((3 : Int) ≠ 0) <|
      guardP (0 ≤ i5 ∧ i5 < a0_1.length) <|
      let t275 : Int := IntKind.i64.wrap ((IntKind.i64.wrap (t256 + (1 : Int))) + (1 : Int))
      guardP ((3 : Int) ≠ 0) <|
      guardP (0 ≤ i5 ∧ i5 < a0_1.length) <|
      guardP ((3 : Int) ≠ 0) <|
      guardP (0 ≤ i5 ∧ i5 < a0_1.length) <|
      let t293 : Int := IntKind.i64.wrap ((IntKind.i64.wrap (t275 + (1 : Int))) + (1 : Int))
      guardP ((3 : Int) ≠ 0) <|
      guardP (0 ≤ i5 ∧ i5 < a0_1.length) <|
      guardP ((3 : Int) ≠ 0) <|
      guardP (0 ≤ i5 ∧ i5 < a0_1.length) <|
      let t311 : Int := IntKind.i64.wrap ((IntKind.i64.wrap (t293 + (1 : Int))) + (1 : Int))
      guardP ((3 : Int) ≠ 0) <|
      guardP (0 ≤ i5 ∧ i5 < a0_1.length) <|
      guardP (0 ≤ i5 ∧ i5 < a0_1.length) <|
      let t327 : Int := IntKind.i64.wrap ((IntKind.i64.wrap (t311 + (1 : Int))) + (1 : Int))
      guardP ((3 : Int) ≠ 0) <|
      guardP (0 ≤ i5 ∧ i5 < a0_1.length) <|
      laws_markStreamSW_l1 N a0_1 (IntKind.i64.wrap (t327 + (1 : Int))) (IntKind.i64.wrap (i5 + (1 : Int)))
    else
      some (k1_1, ())
noncomputable def laws_markStreamSW (a0 : List TStreamxH) (k1 : Int) : Option (Int × Unit) :=
  laws_markStreamSW_l1 (laws_markStreamSW_l1_fuel a0 k1 (0 : Int)) a0 k1 (0 : Int)
@[reducible] def laws_markFrameSW_l1_p : List PE := [.val 0 (.slice 169 (tyFrameH)) (.u false), .val 1 (.int .i64) (.u false), .val 5 (.int .i64) (.u false)]
def laws_markFrameSW_l1_fuel (a0_1 : List TFrameH) (k1_1 : Int) (i5 : Int) : Nat := ((a0_1.length : Int) - i5).toNat + 1
noncomputable def laws_markFrameSW_l1 : Nat → List TFrameH → Int → Int → Option (Int × Unit)
  | 0, _, _, _ => none
  | N + 1, a0_1, k1_1, i5 =>
    bif decide (i5 < (a0_1.length : Int)) then
      guardP (0 ≤ i5 ∧ i5 < a0_1.length) <|
      guardP (0 ≤ i5 ∧ i5 < a0_1.length) <|
      guardP (0 ≤ i5 ∧ i5 < a0_1.length) <|
      let t32 : Int := IntKind.i64.wrap ((IntKind.i64.wrap ((IntKind.i64.wrap (k1_1 + (1 : Int))) + (1 : Int))) + (1 : Int))
      Option.bind (laws_markText t32) fun t36 =>
      guardP (0 ≤ i5 ∧ i5 < a0_1.length) <|
      guardP ((3 : Int) ≠ 0) <|
      guardP (0 ≤ i5 ∧ i5 < a0_1.length) <|
      guardP (0 ≤ i5 ∧ i5 < a0_1.length) <|
      guardP (0 ≤ i5 ∧ i5 < a0_1.length) <|
      guardP (0 ≤ i5 ∧ i5 < a0_1.length) <|
      let t70 : Int := IntKind.i64.wrap ((IntKind.i64.wrap ((IntKind.i64.wrap ((IntKind.i64.wrap ((IntKind.i64.wrap (t32 + (1 : Int))) + (1 : Int))) + (1 : Int))) + (1 : Int))) + (1 : Int))
      guardP ((3 : Int) ≠ 0) <|
      guardP (0 ≤ i5 ∧ i5 < a0_1.length) <|
      laws_markFrameSW_l1 N a0_1 (IntKind.i64.wrap (t70 + (1 : Int))) (IntKind.i64.wrap (i5 + (1 : Int)))
    else
      some (k1_1, ())
noncomputable def laws_markFrameSW (a0 : List TFrameH) (k1 : Int) : Option (Int × Unit) :=
  laws_markFrameSW_l1 (laws_markFrameSW_l1_fuel a0 k1 (0 : Int)) a0 k1 (0 : Int)
@[reducible] def laws_markPacketSW_l1_p : List PE := [.val 0 (.slice 145 (tyPacketxH)) (.u false), .val 1 (.int .i64) (.u false), .val 5 (.int .i64) (.u false)]
def laws_markPacketSW_l1_fuel (a0_1 : List TPacketxH) (k1_1 : Int) (i5 : Int) : Nat := ((a0_1.length : Int) - i5).toNat + 1
noncomputable def laws_markPacketSW_l1 : Nat → List TPacketxH → Int → Int → Option (Int × Unit)
  | 0, _, _, _ => none
  | N + 1, a0_1, k1_1, i5 =>
    bif decide (i5 < (a0_1.length : Int)) then
      guardP (0 ≤ i5 ∧ i5 < a0_1.length) <|
      guardP (0 ≤ i5 ∧ i5 < a0_1.length) <|
      Option.bind (laws_markFrameSW (a0_1.getD i5.toNat zPacketxH).2.1 (IntKind.i64.wrap (k1_1 + (1 : Int)))) fun t25 =>
      laws_markPacketSW_l1 N a0_1 t25.1 (IntKind.i64.wrap (i5 + (1 : Int)))
    else
      some (k1_1, ())
noncomputable def laws_markPacketSW (a0 : List TPacketxH) (k1 : Int) : Option (Int × Unit) :=
  laws_markPacketSW_l1 (laws_markPacketSW_l1_fuel a0 k1 (0 : Int)) a0 k1 (0 : Int)
noncomputable def laws_markConnW (a0 : TConnxH) (k1 : Int) : Option (Int × Unit) :=
  Option.bind (laws_markStreamSW a0.2.2.2.1 k1) fun t8 =>
  Option.bind (laws_markPacketSW a0.2.2.2.2.2.2.2.2.2.2.2.2.2.2.2.1 t8.1) fun t12 =>
  some (t12.1, ())
@[reducible] def laws_markLetterSW_l1_p : List PE := [.val 0 (.slice 93 (tyLetterH)) (.u false), .val 1 (.int .i64) (.u false), .val 5 (.int .i64) (.u false)]
def laws_markLetterSW_l1_fuel (a0_1 : List TLetterH) (k1_1 : Int) (i5 : Int) : Nat := ((a0_1.length : Int) - i5).toNat + 1
noncomputable def laws_markLetterSW_l1 : Nat → List TLetterH → Int → Int → Option (Int × Unit)
  | 0, _, _, _ => none
  | N + 1, a0_1, k1_1, i5 =>
    bif decide (i5 < (a0_1.length : Int)) then
      guardP (0 ≤ i5 ∧ i5 < a0_1.length) <|
      Option.bind (laws_markText (IntKind.i64.wrap (k1_1 + (1 : Int)))) fun t22 =>
      guardP (0 ≤ i5 ∧ i5 < a0_1.length) <|
      laws_markLetterSW_l1 N a0_1 (IntKind.i64.wrap ((IntKind.i64.wrap (k1_1 + (1 : Int))) + (1 : Int))) (IntKind.i64.wrap (i5 + (1 : Int)))
    else
      some (k1_1, ())
noncomputable def laws_markLetterSW (a0 : List TLetterH) (k1 : Int) : Option (Int × Unit) :=
  laws_markLetterSW_l1 (laws_markLetterSW_l1_fuel a0 k1 (0 : Int)) a0 k1 (0 : Int)
@[reducible] def laws_markTrackSW_l1_p : List PE := [.val 0 (.slice 67 (tyTrackH)) (.u false), .val 1 (.int .i64) (.u false), .val 5 (.int .i64) (.u false)]
def laws_markTrackSW_l1_fuel (a0_1 : List TTrackH) (k1_1 : Int) (i5 : Int) : Nat := ((a0_1.length : Int) - i5).toNat + 1
noncomputable def laws_markTrackSW_l1 : Nat → List TTrackH → Int → Int → Option (Int × Unit)
  | 0, _, _, _ => none
  | N + 1, a0_1, k1_1, i5 =>
    bif decide (i5 < (a0_1.length : Int)) then
      guardP (0 ≤ i5 ∧ i5 < a0_1.length) <|
      guardP ((3 : Int) ≠ 0) <|
      guardP (0 ≤ i5 ∧ i5 < a0_1.length) <|
      let t27 : Int := IntKind.i64.wrap ((IntKind.i64.wrap (k1_1 + (1 : Int))) + (1 : Int))
      Option.bind (laws_markText t27) fun t31 =>
      guardP (0 ≤ i5 ∧ i5 < a0_1.length) <|
      Option.bind (laws_markText (IntKind.i64.wrap (t27 + (1 : Int)))) fun t39 =>
      guardP (0 ≤ i5 ∧ i5 < a0_1.length) <|
      let t43 : Int := IntKind.i64.wrap ((IntKind.i64.wrap (t27 + (1 : Int))) + (1 : Int))
      guardP ((3 : Int) ≠ 0) <|
      guardP (0 ≤ i5 ∧ i5 < a0_1.length) <|
      guardP ((3 : Int) ≠ 0) <|
      guardP (0 ≤ i5 ∧ i5 < a0_1.length) <|
      let t61 : Int := IntKind.i64.wrap ((IntKind.i64.wrap (t43 + (1 : Int))) + (1 : Int))
      guardP ((3 : Int) ≠ 0) <|
      guardP (0 ≤ i5 ∧ i5 < a0_1.length) <|
      laws_markTrackSW_l1 N a0_1 (IntKind.i64.wrap (t61 + (1 : Int))) (IntKind.i64.wrap (i5 + (1 : Int)))
    else
      some (k1_1, ())
noncomputable def laws_markTrackSW (a0 : List TTrackH) (k1 : Int) : Option (Int × Unit) :=
  laws_markTrackSW_l1 (laws_markTrackSW_l1_fuel a0 k1 (0 : Int)) a0 k1 (0 : Int)
noncomputable def laws_markPairW (a0 : TPairxH) (k1 : Int) : Option (Int × Unit) :=
  Option.bind (laws_markConnW a0.1 k1) fun t8 =>
  Option.bind (laws_markConnW a0.2.1 t8.1) fun t12 =>
  Option.bind (laws_markLetterSW a0.2.2.1 t12.1) fun t16 =>
  Option.bind (laws_markLetterSW a0.2.2.2.1 t16.1) fun t20 =>
  Option.bind (laws_markTrackSW a0.2.2.2.2.1 t20.1) fun t24 =>
  some (t24.1, ())
@[reducible] def laws_markStringS_l1_p : List PE := [.val 0 (.slice 9 (.str)) (.u true), .val 1 (.int .i64) (.u false), .val 5 (.int .i64) (.u false)]
def laws_markStringS_l1_fuel (a0_1 : List (List UInt8)) (k1_1 : Int) (i5 : Int) : Nat := ((a0_1.length : Int) - i5).toNat + 1
noncomputable def laws_markStringS_l1 : Nat → List (List UInt8) → Int → Int → Option ((Int × Unit) × List (List UInt8))
  | 0, _, _, _ => none
  | N + 1, a0_1, k1_1, i5 =>
    bif decide (i5 < (a0_1.length : Int)) then
      Option.bind (laws_markText k1_1) fun t15 =>
      guardP (0 ≤ i5 ∧ i5 < a0_1.length) <|
      laws_markStringS_l1 N (a0_1.set i5.toNat t15.1) (IntKind.i64.wrap (k1_1 + (1 : Int))) (IntKind.i64.wrap (i5 + (1 : Int)))
    else
      some ((k1_1, ()), a0_1)
noncomputable def laws_markStringS (a0 : List (List UInt8)) (k1 : Int) : Option ((Int × Unit) × List (List UInt8)) :=
  laws_markStringS_l1 (laws_markStringS_l1_fuel a0 k1 (0 : Int)) a0 k1 (0 : Int)
@[reducible] def laws_heldStringS_l1_p : List PE := [.val 0 (.slice 9 (.str)) (.u false), .val 1 (.int .i64) (.u false), .val 5 (.int .i64) (.u false)]
def laws_heldStringS_l1_fuel (a0_1 : List (List UInt8)) (k1_1 : Int) (i5 : Int) : Nat := ((a0_1.length : Int) - i5).toNat + 1
noncomputable def laws_heldStringS_l1 : Nat → List (List UInt8) → Int → Int → Option (Int × Unit)
  | 0, _, _, _ => none
  | N + 1, a0_1, k1_1, i5 =>
    bif decide (i5 < (a0_1.length : Int)) then
      guardP (0 ≤ i5 ∧ i5 < a0_1.length) <|
      Option.bind (laws_markText k1_1) fun t17 =>
      bif !((a0_1.getD i5.toNat ([] : List UInt8)) == t17.1) then
        some ((-1 : Int), ())
      else
        laws_heldStringS_l1 N a0_1 (IntKind.i64.wrap (k1_1 + (1 : Int))) (IntKind.i64.wrap (i5 + (1 : Int)))
    else
      some (k1_1, ())
noncomputable def laws_heldStringS (a0 : List (List UInt8)) (k1 : Int) : Option (Int × Unit) :=
  laws_heldStringS_l1 (laws_heldStringS_l1_fuel a0 k1 (0 : Int)) a0 k1 (0 : Int)
noncomputable def laws_FnExactTrackLines (aP0 : TPair) : Option (Bool × Unit) :=
  Option.bind (laws_szPair aP0 (1048576 : Int)) fun t13 =>
  bif decide (t13.1 < (0 : Int)) then
    some (true, ())
  else
    Option.bind (laws_toPair aP0) fun t17 =>
    Option.bind (spec_TrackLines t17.1) fun t18 =>
    Option.bind (laws_toPair aP0) fun t20 =>
    Option.bind (impl_TrackLines t20.1) fun t22 =>
    Option.bind (laws_eqStringS t22.1 t18.1) fun t25 =>
    bif !t25.1 then
      some (false, ())
    else
      Option.bind (laws_toPair aP0) fun t29 =>
      Option.bind (laws_eqPair t20.1 t29.1) fun t30 =>
      bif !t30.1 then
        some (false, ())
      else
        Option.bind (laws_markPairW (hideV (tyPairx) t20.1) (1 : Int)) fun t34 =>
        Option.bind (bif (decide (t34.1 < (0 : Int))) then some (false, ()) else (laws_eqStringS t22.1 t18.1)) fun t40 =>
        bif (decide (t34.1 < (0 : Int))) || (!t40.1) then
          some (false, ())
        else
          Option.bind (laws_markStringS t22.1 (1 : Int)) fun t45 =>
          Option.bind (laws_heldStringS t45.2 (1 : Int)) fun t48 =>
          bif decide (t48.1 < (0 : Int)) then
            some (false, ())
          else
            bif t48.1 != t45.1.1 then
              some (false, ())
            else
              Option.bind (laws_toPair aP0) fun t55 =>
              Option.bind (impl_TrackLines t55.1) fun t56 =>
              Option.bind (laws_eqStringS t56.1 t18.1) fun t59 =>
              bif !t59.1 then
                some (false, ())
              else
                Option.bind (laws_heldStringS t45.2 (1 : Int)) fun t63 =>
                bif decide (t63.1 < (0 : Int)) then
                  some (false, ())
                else
                  bif t63.1 != t45.1.1 then
                    some (false, ())
                  else
                    some (true, ())
def tab : Tab := lookT [(3, .int .i64), (4, .bool), (5, .int .u8), (9, .str), (23, tyConf), (24, .slice 125 (tyStream)), (26, tyAllow), (28, tyWindow), (30, tyCount), (32, tyAllow), (33, .slice 129 (tyPacket)), (35, tyConn), (36, .slice 82 (tyLetter)), (37, .slice 84 (tyTrack)), (39, tyPair), (41, .slice 9 (.str)), (43, tyConf), (44, .slice 141 (tyStreamx)), (45, tyAllow), (46, tyWindow), (47, tyCount), (48, tyAllow), (49, .slice 145 (tyPacketx)), (51, tyConnx), (52, .slice 93 (tyLetter)), (53, .slice 67 (tyTrack)), (55, tyPairx), (67, tyTrack), (82, tyLetter), (84, tyTrack), (93, tyLetter), (109, .slice 5 (.int .u8)), (111, .slice 3 (.int .i64)), (113, tyRing), (114, .slice 187 (tyRange)), (116, tySender), (117, .slice 199 (tyLetter)), (119, tyBuffer), (121, tyReceiver), (123, tyPriority), (125, tyStream), (127, .slice 174 (tyFrame)), (129, tyPacket), (130, tyRing), (131, .slice 165 (tyRange)), (133, tySenderx), (134, .slice 167 (tyLetter)), (136, tyBufferx), (138, tyReceiverx), (139, tyPriority), (141, tyStreamx), (143, .slice 169 (tyFrame)), (145, tyPacketx), (165, tyRange), (167, tyLetter), (169, tyFrame), (174, tyFrame), (187, tyRange), (199, tyLetter)]
theorem tok_3 : TOK Tryz.prog 3 (.int .i64) := ⟨by kernel_rfl, by kernel_rfl⟩
theorem tok_4 : TOK Tryz.prog 4 (.bool) := ⟨by kernel_rfl, by kernel_rfl⟩
theorem tok_5 : TOK Tryz.prog 5 (.int .u8) := ⟨by kernel_rfl, by kernel_rfl⟩
theorem tok_9 : TOK Tryz.prog 9 (.str) := ⟨by kernel_rfl, by kernel_rfl⟩
theorem tok_23 : TOK Tryz.prog 23 (tyConf) := ⟨by kernel_rfl, by kernel_rfl⟩
theorem tok_24 : TOK Tryz.prog 24 (.slice 125 (tyStream)) := ⟨by kernel_rfl, by kernel_rfl⟩
theorem tok_26 : TOK Tryz.prog 26 (tyAllow) := ⟨by kernel_rfl, by kernel_rfl⟩
theorem tok_28 : TOK Tryz.prog 28 (tyWindow) := ⟨by kernel_rfl, by kernel_rfl⟩
theorem tok_30 : TOK Tryz.prog 30 (tyCount) := ⟨by kernel_rfl, by kernel_rfl⟩
theorem tok_32 : TOK Tryz.prog 32 (tyAllow) := ⟨by kernel_rfl, by kernel_rfl⟩
theorem tok_33 : TOK Tryz.prog 33 (.slice 129 (tyPacket)) := ⟨by kernel_rfl, by kernel_rfl⟩
theorem tok_35 : TOK Tryz.prog 35 (tyConn) := ⟨by kernel_rfl, by kernel_rfl⟩
theorem tok_36 : TOK Tryz.prog 36 (.slice 82 (tyLetter)) := ⟨by kernel_rfl, by kernel_rfl⟩
theorem tok_37 : TOK Tryz.prog 37 (.slice 84 (tyTrack)) := ⟨by kernel_rfl, by kernel_rfl⟩
theorem tok_39 : TOK Tryz.prog 39 (tyPair) := ⟨by kernel_rfl, by kernel_rfl⟩
theorem tok_41 : TOK Tryz.prog 41 (.slice 9 (.str)) := ⟨by kernel_rfl, by kernel_rfl⟩
theorem tok_43 : TOK Tryz.prog 43 (tyConf) := ⟨by kernel_rfl, by kernel_rfl⟩
theorem tok_44 : TOK Tryz.prog 44 (.slice 141 (tyStreamx)) := ⟨by kernel_rfl, by kernel_rfl⟩
theorem tok_45 : TOK Tryz.prog 45 (tyAllow) := ⟨by kernel_rfl, by kernel_rfl⟩
theorem tok_46 : TOK Tryz.prog 46 (tyWindow) := ⟨by kernel_rfl, by kernel_rfl⟩
theorem tok_47 : TOK Tryz.prog 47 (tyCount) := ⟨by kernel_rfl, by kernel_rfl⟩
theorem tok_48 : TOK Tryz.prog 48 (tyAllow) := ⟨by kernel_rfl, by kernel_rfl⟩
theorem tok_49 : TOK Tryz.prog 49 (.slice 145 (tyPacketx)) := ⟨by kernel_rfl, by kernel_rfl⟩
theorem tok_51 : TOK Tryz.prog 51 (tyConnx) := ⟨by kernel_rfl, by kernel_rfl⟩
theorem tok_52 : TOK Tryz.prog 52 (.slice 93 (tyLetter)) := ⟨by kernel_rfl, by kernel_rfl⟩
theorem tok_53 : TOK Tryz.prog 53 (.slice 67 (tyTrack)) := ⟨by kernel_rfl, by kernel_rfl⟩
theorem tok_55 : TOK Tryz.prog 55 (tyPairx) := ⟨by kernel_rfl, by kernel_rfl⟩
theorem tok_67 : TOK Tryz.prog 67 (tyTrack) := ⟨by kernel_rfl, by kernel_rfl⟩
theorem tok_82 : TOK Tryz.prog 82 (tyLetter) := ⟨by kernel_rfl, by kernel_rfl⟩
theorem tok_84 : TOK Tryz.prog 84 (tyTrack) := ⟨by kernel_rfl, by kernel_rfl⟩
theorem tok_93 : TOK Tryz.prog 93 (tyLetter) := ⟨by kernel_rfl, by kernel_rfl⟩
theorem tok_109 : TOK Tryz.prog 109 (.slice 5 (.int .u8)) := ⟨by kernel_rfl, by kernel_rfl⟩
theorem tok_111 : TOK Tryz.prog 111 (.slice 3 (.int .i64)) := ⟨by kernel_rfl, by kernel_rfl⟩
theorem tok_113 : TOK Tryz.prog 113 (tyRing) := ⟨by kernel_rfl, by kernel_rfl⟩
theorem tok_114 : TOK Tryz.prog 114 (.slice 187 (tyRange)) := ⟨by kernel_rfl, by kernel_rfl⟩
theorem tok_116 : TOK Tryz.prog 116 (tySender) := ⟨by kernel_rfl, by kernel_rfl⟩
theorem tok_117 : TOK Tryz.prog 117 (.slice 199 (tyLetter)) := ⟨by kernel_rfl, by kernel_rfl⟩
theorem tok_119 : TOK Tryz.prog 119 (tyBuffer) := ⟨by kernel_rfl, by kernel_rfl⟩
theorem tok_121 : TOK Tryz.prog 121 (tyReceiver) := ⟨by kernel_rfl, by kernel_rfl⟩
theorem tok_123 : TOK Tryz.prog 123 (tyPriority) := ⟨by kernel_rfl, by kernel_rfl⟩
theorem tok_125 : TOK Tryz.prog 125 (tyStream) := ⟨by kernel_rfl, by kernel_rfl⟩
theorem tok_127 : TOK Tryz.prog 127 (.slice 174 (tyFrame)) := ⟨by kernel_rfl, by kernel_rfl⟩
theorem tok_129 : TOK Tryz.prog 129 (tyPacket) := ⟨by kernel_rfl, by kernel_rfl⟩
theorem tok_130 : TOK Tryz.prog 130 (tyRing) := ⟨by kernel_rfl, by kernel_rfl⟩
theorem tok_131 : TOK Tryz.prog 131 (.slice 165 (tyRange)) := ⟨by kernel_rfl, by kernel_rfl⟩
theorem tok_133 : TOK Tryz.prog 133 (tySenderx) := ⟨by kernel_rfl, by kernel_rfl⟩
theorem tok_134 : TOK Tryz.prog 134 (.slice 167 (tyLetter)) := ⟨by kernel_rfl, by kernel_rfl⟩
theorem tok_136 : TOK Tryz.prog 136 (tyBufferx) := ⟨by kernel_rfl, by kernel_rfl⟩
theorem tok_138 : TOK Tryz.prog 138 (tyReceiverx) := ⟨by kernel_rfl, by kernel_rfl⟩
theorem tok_139 : TOK Tryz.prog 139 (tyPriority) := ⟨by kernel_rfl, by kernel_rfl⟩
theorem tok_141 : TOK Tryz.prog 141 (tyStreamx) := ⟨by kernel_rfl, by kernel_rfl⟩
theorem tok_143 : TOK Tryz.prog 143 (.slice 169 (tyFrame)) := ⟨by kernel_rfl, by kernel_rfl⟩
theorem tok_145 : TOK Tryz.prog 145 (tyPacketx) := ⟨by kernel_rfl, by kernel_rfl⟩
theorem tok_165 : TOK Tryz.prog 165 (tyRange) := ⟨by kernel_rfl, by kernel_rfl⟩
theorem tok_167 : TOK Tryz.prog 167 (tyLetter) := ⟨by kernel_rfl, by kernel_rfl⟩
theorem tok_169 : TOK Tryz.prog 169 (tyFrame) := ⟨by kernel_rfl, by kernel_rfl⟩
theorem tok_174 : TOK Tryz.prog 174 (tyFrame) := ⟨by kernel_rfl, by kernel_rfl⟩
theorem tok_187 : TOK Tryz.prog 187 (tyRange) := ⟨by kernel_rfl, by kernel_rfl⟩
theorem tok_199 : TOK Tryz.prog 199 (tyLetter) := ⟨by kernel_rfl, by kernel_rfl⟩
theorem tab_ok : tab.ok Tryz.prog := (tab_cons tok_3 (tab_cons tok_4 (tab_cons tok_5 (tab_cons tok_9 (tab_cons tok_23 (tab_cons tok_24 (tab_cons tok_26 (tab_cons tok_28 (tab_cons tok_30 (tab_cons tok_32 (tab_cons tok_33 (tab_cons tok_35 (tab_cons tok_36 (tab_cons tok_37 (tab_cons tok_39 (tab_cons tok_41 (tab_cons tok_43 (tab_cons tok_44 (tab_cons tok_45 (tab_cons tok_46 (tab_cons tok_47 (tab_cons tok_48 (tab_cons tok_49 (tab_cons tok_51 (tab_cons tok_52 (tab_cons tok_53 (tab_cons tok_55 (tab_cons tok_67 (tab_cons tok_82 (tab_cons tok_84 (tab_cons tok_93 (tab_cons tok_109 (tab_cons tok_111 (tab_cons tok_113 (tab_cons tok_114 (tab_cons tok_116 (tab_cons tok_117 (tab_cons tok_119 (tab_cons tok_121 (tab_cons tok_123 (tab_cons tok_125 (tab_cons tok_127 (tab_cons tok_129 (tab_cons tok_130 (tab_cons tok_131 (tab_cons tok_133 (tab_cons tok_134 (tab_cons tok_136 (tab_cons tok_138 (tab_cons tok_139 (tab_cons tok_141 (tab_cons tok_143 (tab_cons tok_145 (tab_cons tok_165 (tab_cons tok_167 (tab_cons tok_169 (tab_cons tok_174 (tab_cons tok_187 (tab_cons tok_199 tab_nil)))))))))))))))))))))))))))))))))))))))))))))))))))))))))))
noncomputable abbrev glob : Glob := Glob.vars Tryz.prog [("internal/strconv.uint64pow10", (Go.Lib.pow10Tab.map fun z => Value.int .u64 z).toArray)]
def eqsL : List Nat := []
theorem eqs_ok : EqsL Tryz.prog tab eqsL := eqs_nil
@[reducible] def cfg (ln : List Nat) (Γ : Env) (ΓL : EnvL) (ΓB : EnvB) (ΓW : EnvW) : Cfg := { τ := tab, eq := fun e => eqsL.any (Nat.beq e), Γ := Γ, ΓL := ΓL, ΓB := ΓB, lent := ln, ΓW := ΓW }
theorem cfg_ok {gl : Glob} {ln : List Nat} {Γ : Env} {ΓL : EnvL} {ΓB : EnvB} {ΓW : EnvW} (hs : gl.soft = false) (h : Γ.ok Tryz.prog gl) (hL : ΓL.ok Tryz.prog gl) (hB : ΓB.ok Tryz.prog gl) (hW : ΓW.ok Tryz.prog) : (cfg ln Γ ΓL ΓB ΓW).ok Tryz.prog gl := ⟨tab_ok, eqs_ok, h, by kernel_rfl, hL, hB, hs, (fun h => by cases h), hW⟩
def tabS : Tab := lookT [(3, .int .i64), (4, .bool), (9, .str), (44, .slice 141 (tyStreamxH)), (45, tyAllowH), (46, tyWindowH), (49, .slice 145 (tyPacketxH)), (51, tyConnxH), (52, .slice 93 (tyLetterH)), (53, .slice 67 (tyTrackH)), (55, tyPairxH), (67, tyTrackH), (93, tyLetterH), (111, .slice 3 (.hid (.int .i64))), (130, tyRingH), (131, .slice 165 (tyRangeH)), (133, tySenderxH), (134, .slice 167 (tyLetterH)), (136, tyBufferxH), (138, tyReceiverxH), (139, tyPriorityH), (141, tyStreamxH), (143, .slice 169 (tyFrameH)), (145, tyPacketxH), (165, tyRangeH), (167, tyLetterH), (169, tyFrameH)]
theorem tokS_3 : TOK Tryz.prog 3 (.int .i64) := ⟨by kernel_rfl, by kernel_rfl⟩
theorem tokS_4 : TOK Tryz.prog 4 (.bool) := ⟨by kernel_rfl, by kernel_rfl⟩
theorem tokS_9 : TOK Tryz.prog 9 (.str) := ⟨by kernel_rfl, by kernel_rfl⟩
theorem tokS_44 : TOK Tryz.prog 44 (.slice 141 (tyStreamxH)) := ⟨by kernel_rfl, by kernel_rfl⟩
theorem tokS_45 : TOK Tryz.prog 45 (tyAllowH) := ⟨by kernel_rfl, by kernel_rfl⟩
theorem tokS_46 : TOK Tryz.prog 46 (tyWindowH) := ⟨by kernel_rfl, by kernel_rfl⟩
theorem tokS_49 : TOK Tryz.prog 49 (.slice 145 (tyPacketxH)) := ⟨by kernel_rfl, by kernel_rfl⟩
theorem tokS_51 : TOK Tryz.prog 51 (tyConnxH) := ⟨by kernel_rfl, by kernel_rfl⟩
theorem tokS_52 : TOK Tryz.prog 52 (.slice 93 (tyLetterH)) := ⟨by kernel_rfl, by kernel_rfl⟩
theorem tokS_53 : TOK Tryz.prog 53 (.slice 67 (tyTrackH)) := ⟨by kernel_rfl, by kernel_rfl⟩
theorem tokS_55 : TOK Tryz.prog 55 (tyPairxH) := ⟨by kernel_rfl, by kernel_rfl⟩
theorem tokS_67 : TOK Tryz.prog 67 (tyTrackH) := ⟨by kernel_rfl, by kernel_rfl⟩
theorem tokS_93 : TOK Tryz.prog 93 (tyLetterH) := ⟨by kernel_rfl, by kernel_rfl⟩
theorem tokS_111 : TOK Tryz.prog 111 (.slice 3 (.hid (.int .i64))) := ⟨by kernel_rfl, by kernel_rfl⟩
theorem tokS_130 : TOK Tryz.prog 130 (tyRingH) := ⟨by kernel_rfl, by kernel_rfl⟩
theorem tokS_131 : TOK Tryz.prog 131 (.slice 165 (tyRangeH)) := ⟨by kernel_rfl, by kernel_rfl⟩
theorem tokS_133 : TOK Tryz.prog 133 (tySenderxH) := ⟨by kernel_rfl, by kernel_rfl⟩
theorem tokS_134 : TOK Tryz.prog 134 (.slice 167 (tyLetterH)) := ⟨by kernel_rfl, by kernel_rfl⟩
theorem tokS_136 : TOK Tryz.prog 136 (tyBufferxH) := ⟨by kernel_rfl, by kernel_rfl⟩
theorem tokS_138 : TOK Tryz.prog 138 (tyReceiverxH) := ⟨by kernel_rfl, by kernel_rfl⟩
theorem tokS_139 : TOK Tryz.prog 139 (tyPriorityH) := ⟨by kernel_rfl, by kernel_rfl⟩
theorem tokS_141 : TOK Tryz.prog 141 (tyStreamxH) := ⟨by kernel_rfl, by kernel_rfl⟩
theorem tokS_143 : TOK Tryz.prog 143 (.slice 169 (tyFrameH)) := ⟨by kernel_rfl, by kernel_rfl⟩
theorem tokS_145 : TOK Tryz.prog 145 (tyPacketxH) := ⟨by kernel_rfl, by kernel_rfl⟩
theorem tokS_165 : TOK Tryz.prog 165 (tyRangeH) := ⟨by kernel_rfl, by kernel_rfl⟩
theorem tokS_167 : TOK Tryz.prog 167 (tyLetterH) := ⟨by kernel_rfl, by kernel_rfl⟩
theorem tokS_169 : TOK Tryz.prog 169 (tyFrameH) := ⟨by kernel_rfl, by kernel_rfl⟩
theorem tabS_ok : tabS.ok Tryz.prog := (tab_cons tokS_3 (tab_cons tokS_4 (tab_cons tokS_9 (tab_cons tokS_44 (tab_cons tokS_45 (tab_cons tokS_46 (tab_cons tokS_49 (tab_cons tokS_51 (tab_cons tokS_52 (tab_cons tokS_53 (tab_cons tokS_55 (tab_cons tokS_67 (tab_cons tokS_93 (tab_cons tokS_111 (tab_cons tokS_130 (tab_cons tokS_131 (tab_cons tokS_133 (tab_cons tokS_134 (tab_cons tokS_136 (tab_cons tokS_138 (tab_cons tokS_139 (tab_cons tokS_141 (tab_cons tokS_143 (tab_cons tokS_145 (tab_cons tokS_165 (tab_cons tokS_167 (tab_cons tokS_169 tab_nil)))))))))))))))))))))))))))
@[reducible] def cfgS (Γ : Env) (ΓW : EnvW) : Cfg := { τ := tabS, eq := fun _ => false, Γ := Γ, soft := true, ΓW := ΓW }
theorem cfgS_ok {w0 : World} {L : Nat → Prop} {Γ : Env} {ΓW : EnvW} (h : Γ.ok Tryz.prog (softGlob w0 L)) (hW : ΓW.ok Tryz.prog) : (cfgS Γ ΓW).ok Tryz.prog (softGlob w0 L) := ⟨tabS_ok, (fun _ _ h => by cases h), h, by kernel_rfl, (fun _ h => by cases h), (fun _ h => by cases h), rfl, fun _ => ⟨w0, L, rfl⟩, hW⟩
@[reducible] noncomputable def e_laws_szIntS : FnE := { f := 94, args := [.slice 3 (.int .i64), .int .i64], res := [.int .i64], F := fun xs => laws_szIntS xs.1 xs.2.1 }
theorem ok_laws_szIntS : FnOK Tryz.prog glob e_laws_szIntS := by
  refine FnOK.of (e := e_laws_szIntS) (C := cfg [] [] [] [] []) (cfg_ok rfl env_nil envL_nil envB_nil envW_nil) rfl Tryz.func94 (c := codeOf Tryz.f94) rfl Tryz.call94 (by decide)
    (.leaf) ?_ ?_
  · exact conds_leaf _ _
  · intro xs r h
    refine Eq.trans (Eq.symm ?_) h
    kernel_rfl
@[reducible] noncomputable def e_laws_szRing : FnE := { f := 81, args := [tyRing, .int .i64], res := [.int .i64], F := fun xs => laws_szRing xs.1 xs.2.1 }
theorem ok_laws_szRing : FnOK Tryz.prog glob e_laws_szRing := by
  refine FnOK.of (e := e_laws_szRing) (C := cfg [] [e_laws_szIntS] [] [] []) (cfg_ok rfl (env_cons ok_laws_szIntS env_nil) envL_nil envB_nil envW_nil) rfl Tryz.func81 (c := codeOf Tryz.f81) rfl Tryz.call81 (by decide)
    (.leaf) ?_ ?_
  · exact conds_leaf _ _
  · intro xs r h
    refine Eq.trans (Eq.symm ?_) h
    kernel_rfl
@[reducible] noncomputable def e_laws_szRangeS : FnE := { f := 82, args := [.slice 187 (tyRange), .int .i64], res := [.int .i64], F := fun xs => laws_szRangeS xs.1 xs.2.1 }
theorem ok_laws_szRangeS : FnOK Tryz.prog glob e_laws_szRangeS := by
  refine FnOK.of (e := e_laws_szRangeS) (C := cfg [] [] [] [] []) (cfg_ok rfl env_nil envL_nil envB_nil envW_nil) rfl Tryz.func82 (c := codeOf Tryz.f82) rfl Tryz.call82 (by decide)
    (.leaf) ?_ ?_
  · exact conds_leaf _ _
  · intro xs r h
    refine Eq.trans (Eq.symm ?_) h
    kernel_rfl
@[reducible] noncomputable def e_laws_szSender : FnE := { f := 69, args := [tySender, .int .i64], res := [.int .i64], F := fun xs => laws_szSender xs.1 xs.2.1 }
theorem ok_laws_szSender : FnOK Tryz.prog glob e_laws_szSender := by
  refine FnOK.of (e := e_laws_szSender) (C := cfg [] [e_laws_szRing, e_laws_szRangeS] [] [] []) (cfg_ok rfl (env_cons ok_laws_szRing (env_cons ok_laws_szRangeS env_nil)) envL_nil envB_nil envW_nil) rfl Tryz.func69 (c := codeOf Tryz.f69) rfl Tryz.call69 (by decide)
    (.leaf) ?_ ?_
  · exact conds_leaf _ _
  · intro xs r h
    refine Eq.trans (Eq.symm ?_) h
    kernel_rfl
@[reducible] noncomputable def e_laws_szChunk : FnE := { f := 106, args := [tyLetter, .int .i64], res := [.int .i64], F := fun xs => laws_szChunk xs.1 xs.2.1 }
theorem ok_laws_szChunk : FnOK Tryz.prog glob e_laws_szChunk := by
  refine FnOK.of (e := e_laws_szChunk) (C := cfg [] [] [] [] []) (cfg_ok rfl env_nil envL_nil envB_nil envW_nil) rfl Tryz.func106 (c := codeOf Tryz.f106) rfl Tryz.call106 (by decide)
    (.leaf) ?_ ?_
  · exact conds_leaf _ _
  · intro xs r h
    refine Eq.trans (Eq.symm ?_) h
    kernel_rfl
@[reducible] noncomputable def e_laws_szChunkS : FnE := { f := 95, args := [.slice 199 (tyLetter), .int .i64], res := [.int .i64], F := fun xs => laws_szChunkS xs.1 xs.2.1 }
theorem ok_laws_szChunkS : FnOK Tryz.prog glob e_laws_szChunkS := by
  refine FnOK.of (e := e_laws_szChunkS) (C := cfg [] [e_laws_szChunk] [] [] []) (cfg_ok rfl (env_cons ok_laws_szChunk env_nil) envL_nil envB_nil envW_nil) rfl Tryz.func95 (c := codeOf Tryz.f95) rfl Tryz.call95 (by decide)
    ((.seq .leaf (.seq .leaf (.seq .leaf (.seq (.seq .leaf (.block (.loop laws_szChunkS_l1_p (fun N v => laws_szChunkS_l1 N v.1 v.2.1 v.2.2.1) (fun v => laws_szChunkS_l1_fuel v.1 v.2.1 v.2.2.1) (fun K1 => .leaf)))) .leaf))))) ?_ ?_
  · exact ⟨conds_leaf _ _, ⟨conds_leaf _ _, ⟨conds_leaf _ _, ⟨⟨conds_leaf _ _, ⟨fun _ => rfl, fun N => ⟨(fun v => by kernel_rfl), conds_leaf _ _⟩⟩⟩, conds_leaf _ _⟩⟩⟩⟩
  · intro xs r h
    refine Eq.trans (Eq.symm ?_) h
    kernel_rfl
@[reducible] noncomputable def e_laws_szBuffer : FnE := { f := 83, args := [tyBuffer, .int .i64], res := [.int .i64], F := fun xs => laws_szBuffer xs.1 xs.2.1 }
theorem ok_laws_szBuffer : FnOK Tryz.prog glob e_laws_szBuffer := by
  refine FnOK.of (e := e_laws_szBuffer) (C := cfg [] [e_laws_szChunkS] [] [] []) (cfg_ok rfl (env_cons ok_laws_szChunkS env_nil) envL_nil envB_nil envW_nil) rfl Tryz.func83 (c := codeOf Tryz.f83) rfl Tryz.call83 (by decide)
    (.leaf) ?_ ?_
  · exact conds_leaf _ _
  · intro xs r h
    refine Eq.trans (Eq.symm ?_) h
    kernel_rfl
@[reducible] noncomputable def e_laws_szReceiver : FnE := { f := 70, args := [tyReceiver, .int .i64], res := [.int .i64], F := fun xs => laws_szReceiver xs.1 xs.2.1 }
theorem ok_laws_szReceiver : FnOK Tryz.prog glob e_laws_szReceiver := by
  refine FnOK.of (e := e_laws_szReceiver) (C := cfg [] [e_laws_szBuffer] [] [] []) (cfg_ok rfl (env_cons ok_laws_szBuffer env_nil) envL_nil envB_nil envW_nil) rfl Tryz.func70 (c := codeOf Tryz.f70) rfl Tryz.call70 (by decide)
    (.leaf) ?_ ?_
  · exact conds_leaf _ _
  · intro xs r h
    refine Eq.trans (Eq.symm ?_) h
    kernel_rfl
@[reducible] noncomputable def e_laws_szStream : FnE := { f := 57, args := [tyStream, .int .i64], res := [.int .i64], F := fun xs => laws_szStream xs.1 xs.2.1 }
theorem ok_laws_szStream : FnOK Tryz.prog glob e_laws_szStream := by
  refine FnOK.of (e := e_laws_szStream) (C := cfg [] [e_laws_szSender, e_laws_szReceiver] [] [] []) (cfg_ok rfl (env_cons ok_laws_szSender (env_cons ok_laws_szReceiver env_nil)) envL_nil envB_nil envW_nil) rfl Tryz.func57 (c := codeOf Tryz.f57) rfl Tryz.call57 (by decide)
    (.leaf) ?_ ?_
  · exact conds_leaf _ _
  · intro xs r h
    refine Eq.trans (Eq.symm ?_) h
    kernel_rfl
@[reducible] noncomputable def e_laws_szStreamS : FnE := { f := 28, args := [.slice 125 (tyStream), .int .i64], res := [.int .i64], F := fun xs => laws_szStreamS xs.1 xs.2.1 }
theorem ok_laws_szStreamS : FnOK Tryz.prog glob e_laws_szStreamS := by
  refine FnOK.of (e := e_laws_szStreamS) (C := cfg [] [e_laws_szStream] [] [] []) (cfg_ok rfl (env_cons ok_laws_szStream env_nil) envL_nil envB_nil envW_nil) rfl Tryz.func28 (c := codeOf Tryz.f28) rfl Tryz.call28 (by decide)
    ((.seq .leaf (.seq .leaf (.seq .leaf (.seq (.seq .leaf (.block (.loop laws_szStreamS_l1_p (fun N v => laws_szStreamS_l1 N v.1 v.2.1 v.2.2.1) (fun v => laws_szStreamS_l1_fuel v.1 v.2.1 v.2.2.1) (fun K1 => .leaf)))) .leaf))))) ?_ ?_
  · exact ⟨conds_leaf _ _, ⟨conds_leaf _ _, ⟨conds_leaf _ _, ⟨⟨conds_leaf _ _, ⟨fun _ => rfl, fun N => ⟨(fun v => by kernel_rfl), conds_leaf _ _⟩⟩⟩, conds_leaf _ _⟩⟩⟩⟩
  · intro xs r h
    refine Eq.trans (Eq.symm ?_) h
    kernel_rfl
@[reducible] noncomputable def e_laws_szFrame : FnE := { f := 84, args := [tyFrame, .int .i64], res := [.int .i64], F := fun xs => laws_szFrame xs.1 xs.2.1 }
theorem ok_laws_szFrame : FnOK Tryz.prog glob e_laws_szFrame := by
  refine FnOK.of (e := e_laws_szFrame) (C := cfg [] [] [] [] []) (cfg_ok rfl env_nil envL_nil envB_nil envW_nil) rfl Tryz.func84 (c := codeOf Tryz.f84) rfl Tryz.call84 (by decide)
    (.leaf) ?_ ?_
  · exact conds_leaf _ _
  · intro xs r h
    refine Eq.trans (Eq.symm ?_) h
    kernel_rfl
@[reducible] noncomputable def e_laws_szFrameS : FnE := { f := 71, args := [.slice 174 (tyFrame), .int .i64], res := [.int .i64], F := fun xs => laws_szFrameS xs.1 xs.2.1 }
theorem ok_laws_szFrameS : FnOK Tryz.prog glob e_laws_szFrameS := by
  refine FnOK.of (e := e_laws_szFrameS) (C := cfg [] [e_laws_szFrame] [] [] []) (cfg_ok rfl (env_cons ok_laws_szFrame env_nil) envL_nil envB_nil envW_nil) rfl Tryz.func71 (c := codeOf Tryz.f71) rfl Tryz.call71 (by decide)
    ((.seq .leaf (.seq .leaf (.seq .leaf (.seq (.seq .leaf (.block (.loop laws_szFrameS_l1_p (fun N v => laws_szFrameS_l1 N v.1 v.2.1 v.2.2.1) (fun v => laws_szFrameS_l1_fuel v.1 v.2.1 v.2.2.1) (fun K1 => .leaf)))) .leaf))))) ?_ ?_
  · exact ⟨conds_leaf _ _, ⟨conds_leaf _ _, ⟨conds_leaf _ _, ⟨⟨conds_leaf _ _, ⟨fun _ => rfl, fun N => ⟨(fun v => by kernel_rfl), conds_leaf _ _⟩⟩⟩, conds_leaf _ _⟩⟩⟩⟩
  · intro xs r h
    refine Eq.trans (Eq.symm ?_) h
    kernel_rfl
@[reducible] noncomputable def e_laws_szPacket : FnE := { f := 58, args := [tyPacket, .int .i64], res := [.int .i64], F := fun xs => laws_szPacket xs.1 xs.2.1 }
theorem ok_laws_szPacket : FnOK Tryz.prog glob e_laws_szPacket := by
  refine FnOK.of (e := e_laws_szPacket) (C := cfg [] [e_laws_szFrameS] [] [] []) (cfg_ok rfl (env_cons ok_laws_szFrameS env_nil) envL_nil envB_nil envW_nil) rfl Tryz.func58 (c := codeOf Tryz.f58) rfl Tryz.call58 (by decide)
    (.leaf) ?_ ?_
  · exact conds_leaf _ _
  · intro xs r h
    refine Eq.trans (Eq.symm ?_) h
    kernel_rfl
@[reducible] noncomputable def e_laws_szPacketS : FnE := { f := 29, args := [.slice 129 (tyPacket), .int .i64], res := [.int .i64], F := fun xs => laws_szPacketS xs.1 xs.2.1 }
theorem ok_laws_szPacketS : FnOK Tryz.prog glob e_laws_szPacketS := by
  refine FnOK.of (e := e_laws_szPacketS) (C := cfg [] [e_laws_szPacket] [] [] []) (cfg_ok rfl (env_cons ok_laws_szPacket env_nil) envL_nil envB_nil envW_nil) rfl Tryz.func29 (c := codeOf Tryz.f29) rfl Tryz.call29 (by decide)
    ((.seq .leaf (.seq .leaf (.seq .leaf (.seq (.seq .leaf (.block (.loop laws_szPacketS_l1_p (fun N v => laws_szPacketS_l1 N v.1 v.2.1 v.2.2.1) (fun v => laws_szPacketS_l1_fuel v.1 v.2.1 v.2.2.1) (fun K1 => .leaf)))) .leaf))))) ?_ ?_
  · exact ⟨conds_leaf _ _, ⟨conds_leaf _ _, ⟨conds_leaf _ _, ⟨⟨conds_leaf _ _, ⟨fun _ => rfl, fun N => ⟨(fun v => by kernel_rfl), conds_leaf _ _⟩⟩⟩, conds_leaf _ _⟩⟩⟩⟩
  · intro xs r h
    refine Eq.trans (Eq.symm ?_) h
    kernel_rfl
@[reducible] noncomputable def e_laws_szConn : FnE := { f := 13, args := [tyConn, .int .i64], res := [.int .i64], F := fun xs => laws_szConn xs.1 xs.2.1 }
theorem ok_laws_szConn : FnOK Tryz.prog glob e_laws_szConn := by
  refine FnOK.of (e := e_laws_szConn) (C := cfg [] [e_laws_szStreamS, e_laws_szPacketS] [] [] []) (cfg_ok rfl (env_cons ok_laws_szStreamS (env_cons ok_laws_szPacketS env_nil)) envL_nil envB_nil envW_nil) rfl Tryz.func13 (c := codeOf Tryz.f13) rfl Tryz.call13 (by decide)
    (.leaf) ?_ ?_
  · exact conds_leaf _ _
  · intro xs r h
    refine Eq.trans (Eq.symm ?_) h
    kernel_rfl
@[reducible] noncomputable def e_laws_szLetter : FnE := { f := 30, args := [tyLetter, .int .i64], res := [.int .i64], F := fun xs => laws_szLetter xs.1 xs.2.1 }
theorem ok_laws_szLetter : FnOK Tryz.prog glob e_laws_szLetter := by
  refine FnOK.of (e := e_laws_szLetter) (C := cfg [] [] [] [] []) (cfg_ok rfl env_nil envL_nil envB_nil envW_nil) rfl Tryz.func30 (c := codeOf Tryz.f30) rfl Tryz.call30 (by decide)
    (.leaf) ?_ ?_
  · exact conds_leaf _ _
  · intro xs r h
    refine Eq.trans (Eq.symm ?_) h
    kernel_rfl
@[reducible] noncomputable def e_laws_szLetterS : FnE := { f := 14, args := [.slice 82 (tyLetter), .int .i64], res := [.int .i64], F := fun xs => laws_szLetterS xs.1 xs.2.1 }
theorem ok_laws_szLetterS : FnOK Tryz.prog glob e_laws_szLetterS := by
  refine FnOK.of (e := e_laws_szLetterS) (C := cfg [] [e_laws_szLetter] [] [] []) (cfg_ok rfl (env_cons ok_laws_szLetter env_nil) envL_nil envB_nil envW_nil) rfl Tryz.func14 (c := codeOf Tryz.f14) rfl Tryz.call14 (by decide)
    ((.seq .leaf (.seq .leaf (.seq .leaf (.seq (.seq .leaf (.block (.loop laws_szLetterS_l1_p (fun N v => laws_szLetterS_l1 N v.1 v.2.1 v.2.2.1) (fun v => laws_szLetterS_l1_fuel v.1 v.2.1 v.2.2.1) (fun K1 => .leaf)))) .leaf))))) ?_ ?_
  · exact ⟨conds_leaf _ _, ⟨conds_leaf _ _, ⟨conds_leaf _ _, ⟨⟨conds_leaf _ _, ⟨fun _ => rfl, fun N => ⟨(fun v => by kernel_rfl), conds_leaf _ _⟩⟩⟩, conds_leaf _ _⟩⟩⟩⟩
  · intro xs r h
    refine Eq.trans (Eq.symm ?_) h
    kernel_rfl
@[reducible] noncomputable def e_laws_szTrack : FnE := { f := 31, args := [tyTrack, .int .i64], res := [.int .i64], F := fun xs => laws_szTrack xs.1 xs.2.1 }
theorem ok_laws_szTrack : FnOK Tryz.prog glob e_laws_szTrack := by
  refine FnOK.of (e := e_laws_szTrack) (C := cfg [] [] [] [] []) (cfg_ok rfl env_nil envL_nil envB_nil envW_nil) rfl Tryz.func31 (c := codeOf Tryz.f31) rfl Tryz.call31 (by decide)
    (.leaf) ?_ ?_
  · exact conds_leaf _ _
  · intro xs r h
    refine Eq.trans (Eq.symm ?_) h
    kernel_rfl
@[reducible] noncomputable def e_laws_szTrackS : FnE := { f := 15, args := [.slice 84 (tyTrack), .int .i64], res := [.int .i64], F := fun xs => laws_szTrackS xs.1 xs.2.1 }
theorem ok_laws_szTrackS : FnOK Tryz.prog glob e_laws_szTrackS := by
  refine FnOK.of (e := e_laws_szTrackS) (C := cfg [] [e_laws_szTrack] [] [] []) (cfg_ok rfl (env_cons ok_laws_szTrack env_nil) envL_nil envB_nil envW_nil) rfl Tryz.func15 (c := codeOf Tryz.f15) rfl Tryz.call15 (by decide)
    ((.seq .leaf (.seq .leaf (.seq .leaf (.seq (.seq .leaf (.block (.loop laws_szTrackS_l1_p (fun N v => laws_szTrackS_l1 N v.1 v.2.1 v.2.2.1) (fun v => laws_szTrackS_l1_fuel v.1 v.2.1 v.2.2.1) (fun K1 => .leaf)))) .leaf))))) ?_ ?_
  · exact ⟨conds_leaf _ _, ⟨conds_leaf _ _, ⟨conds_leaf _ _, ⟨⟨conds_leaf _ _, ⟨fun _ => rfl, fun N => ⟨(fun v => by kernel_rfl), conds_leaf _ _⟩⟩⟩, conds_leaf _ _⟩⟩⟩⟩
  · intro xs r h
    refine Eq.trans (Eq.symm ?_) h
    kernel_rfl
@[reducible] noncomputable def e_laws_szPair : FnE := { f := 4, args := [tyPair, .int .i64], res := [.int .i64], F := fun xs => laws_szPair xs.1 xs.2.1 }
theorem ok_laws_szPair : FnOK Tryz.prog glob e_laws_szPair := by
  refine FnOK.of (e := e_laws_szPair) (C := cfg [] [e_laws_szConn, e_laws_szLetterS, e_laws_szTrackS] [] [] []) (cfg_ok rfl (env_cons ok_laws_szConn (env_cons ok_laws_szLetterS (env_cons ok_laws_szTrackS env_nil))) envL_nil envB_nil envW_nil) rfl Tryz.func4 (c := codeOf Tryz.f4) rfl Tryz.call4 (by decide)
    (.leaf) ?_ ?_
  · exact conds_leaf _ _
  · intro xs r h
    refine Eq.trans (Eq.symm ?_) h
    kernel_rfl
@[reducible] noncomputable def e_laws_toConf : FnE := { f := 34, args := [tyConf], res := [tyConf], F := fun xs => laws_toConf xs.1 }
theorem ok_laws_toConf : FnOK Tryz.prog glob e_laws_toConf := by
  refine FnOK.of (e := e_laws_toConf) (C := cfg [] [] [] [] []) (cfg_ok rfl env_nil envL_nil envB_nil envW_nil) rfl Tryz.func34 (c := codeOf Tryz.f34) rfl Tryz.call34 (by decide)
    (.leaf) ?_ ?_
  · exact conds_leaf _ _
  · intro xs r h
    refine Eq.trans (Eq.symm ?_) h
    kernel_rfl
@[reducible] noncomputable def e_laws_toIntS : FnE := { f := 96, args := [.slice 3 (.int .i64)], res := [.slice 3 (.int .i64)], F := fun xs => laws_toIntS xs.1 }
theorem ok_laws_toIntS : FnOK Tryz.prog glob e_laws_toIntS := by
  refine FnOK.of (e := e_laws_toIntS) (C := cfg [] [] [] [] []) (cfg_ok rfl env_nil envL_nil envB_nil envW_nil) rfl Tryz.func96 (c := codeOf Tryz.f96) rfl Tryz.call96 (by decide)
    ((.seq .leaf (.seq .leaf (.seq (.seq .leaf (.block (.loop laws_toIntS_l1_p (fun N v => laws_toIntS_l1 N v.1 v.2.1 v.2.2.1) (fun v => laws_toIntS_l1_fuel v.1 v.2.1 v.2.2.1) (fun K1 => .leaf)))) .leaf)))) ?_ ?_
  · exact ⟨conds_leaf _ _, ⟨conds_leaf _ _, ⟨⟨conds_leaf _ _, ⟨fun _ => rfl, fun N => ⟨(fun v => by kernel_rfl), conds_leaf _ _⟩⟩⟩, conds_leaf _ _⟩⟩⟩
  · intro xs r h
    refine Eq.trans (Eq.symm ?_) h
    kernel_rfl
@[reducible] noncomputable def e_laws_toRing : FnE := { f := 85, args := [tyRing], res := [tyRing], F := fun xs => laws_toRing xs.1 }
theorem ok_laws_toRing : FnOK Tryz.prog glob e_laws_toRing := by
  refine FnOK.of (e := e_laws_toRing) (C := cfg [] [e_laws_toIntS] [] [] []) (cfg_ok rfl (env_cons ok_laws_toIntS env_nil) envL_nil envB_nil envW_nil) rfl Tryz.func85 (c := codeOf Tryz.f85) rfl Tryz.call85 (by decide)
    (.leaf) ?_ ?_
  · exact conds_leaf _ _
  · intro xs r h
    refine Eq.trans (Eq.symm ?_) h
    kernel_rfl
@[reducible] noncomputable def e_laws_toRange : FnE := { f := 97, args := [tyRange], res := [tyRange], F := fun xs => laws_toRange xs.1 }
theorem ok_laws_toRange : FnOK Tryz.prog glob e_laws_toRange := by
  refine FnOK.of (e := e_laws_toRange) (C := cfg [] [] [] [] []) (cfg_ok rfl env_nil envL_nil envB_nil envW_nil) rfl Tryz.func97 (c := codeOf Tryz.f97) rfl Tryz.call97 (by decide)
    (.leaf) ?_ ?_
  · exact conds_leaf _ _
  · intro xs r h
    refine Eq.trans (Eq.symm ?_) h
    kernel_rfl
@[reducible] noncomputable def e_laws_toRangeS : FnE := { f := 86, args := [.slice 187 (tyRange)], res := [.slice 165 (tyRange)], F := fun xs => laws_toRangeS xs.1 }
theorem ok_laws_toRangeS : FnOK Tryz.prog glob e_laws_toRangeS := by
  refine FnOK.of (e := e_laws_toRangeS) (C := cfg [] [e_laws_toRange] [] [] []) (cfg_ok rfl (env_cons ok_laws_toRange env_nil) envL_nil envB_nil envW_nil) rfl Tryz.func86 (c := codeOf Tryz.f86) rfl Tryz.call86 (by decide)
    ((.seq .leaf (.seq .leaf (.seq (.seq .leaf (.block (.loop laws_toRangeS_l1_p (fun N v => laws_toRangeS_l1 N v.1 v.2.1 v.2.2.1) (fun v => laws_toRangeS_l1_fuel v.1 v.2.1 v.2.2.1) (fun K1 => .leaf)))) .leaf)))) ?_ ?_
  · exact ⟨conds_leaf _ _, ⟨conds_leaf _ _, ⟨⟨conds_leaf _ _, ⟨fun _ => rfl, fun N => ⟨(fun v => by kernel_rfl), conds_leaf _ _⟩⟩⟩, conds_leaf _ _⟩⟩⟩
  · intro xs r h
    refine Eq.trans (Eq.symm ?_) h
    kernel_rfl
@[reducible] noncomputable def e_laws_toSender : FnE := { f := 72, args := [tySender], res := [tySenderx], F := fun xs => laws_toSender xs.1 }
theorem ok_laws_toSender : FnOK Tryz.prog glob e_laws_toSender := by
  refine FnOK.of (e := e_laws_toSender) (C := cfg [] [e_laws_toRing, e_laws_toRangeS] [] [] []) (cfg_ok rfl (env_cons ok_laws_toRing (env_cons ok_laws_toRangeS env_nil)) envL_nil envB_nil envW_nil) rfl Tryz.func72 (c := codeOf Tryz.f72) rfl Tryz.call72 (by decide)
    (.leaf) ?_ ?_
  · exact conds_leaf _ _
  · intro xs r h
    refine Eq.trans (Eq.symm ?_) h
    kernel_rfl
@[reducible] noncomputable def e_laws_toCredit : FnE := { f := 36, args := [tyAllow], res := [tyAllow], F := fun xs => laws_toCredit xs.1 }
theorem ok_laws_toCredit : FnOK Tryz.prog glob e_laws_toCredit := by
  refine FnOK.of (e := e_laws_toCredit) (C := cfg [] [] [] [] []) (cfg_ok rfl env_nil envL_nil envB_nil envW_nil) rfl Tryz.func36 (c := codeOf Tryz.f36) rfl Tryz.call36 (by decide)
    (.leaf) ?_ ?_
  · exact conds_leaf _ _
  · intro xs r h
    refine Eq.trans (Eq.symm ?_) h
    kernel_rfl
@[reducible] noncomputable def e_laws_toChunk : FnE := { f := 107, args := [tyLetter], res := [tyLetter], F := fun xs => laws_toChunk xs.1 }
theorem ok_laws_toChunk : FnOK Tryz.prog glob e_laws_toChunk := by
  refine FnOK.of (e := e_laws_toChunk) (C := cfg [] [] [] [] []) (cfg_ok rfl env_nil envL_nil envB_nil envW_nil) rfl Tryz.func107 (c := codeOf Tryz.f107) rfl Tryz.call107 (by decide)
    (.leaf) ?_ ?_
  · exact conds_leaf _ _
  · intro xs r h
    refine Eq.trans (Eq.symm ?_) h
    kernel_rfl
@[reducible] noncomputable def e_laws_toChunkS : FnE := { f := 98, args := [.slice 199 (tyLetter)], res := [.slice 167 (tyLetter)], F := fun xs => laws_toChunkS xs.1 }
theorem ok_laws_toChunkS : FnOK Tryz.prog glob e_laws_toChunkS := by
  refine FnOK.of (e := e_laws_toChunkS) (C := cfg [] [e_laws_toChunk] [] [] []) (cfg_ok rfl (env_cons ok_laws_toChunk env_nil) envL_nil envB_nil envW_nil) rfl Tryz.func98 (c := codeOf Tryz.f98) rfl Tryz.call98 (by decide)
    ((.seq .leaf (.seq .leaf (.seq (.seq .leaf (.block (.loop laws_toChunkS_l1_p (fun N v => laws_toChunkS_l1 N v.1 v.2.1 v.2.2.1) (fun v => laws_toChunkS_l1_fuel v.1 v.2.1 v.2.2.1) (fun K1 => .leaf)))) .leaf)))) ?_ ?_
  · exact ⟨conds_leaf _ _, ⟨conds_leaf _ _, ⟨⟨conds_leaf _ _, ⟨fun _ => rfl, fun N => ⟨(fun v => by kernel_rfl), conds_leaf _ _⟩⟩⟩, conds_leaf _ _⟩⟩⟩
  · intro xs r h
    refine Eq.trans (Eq.symm ?_) h
    kernel_rfl
@[reducible] noncomputable def e_laws_toBuffer : FnE := { f := 87, args := [tyBuffer], res := [tyBufferx], F := fun xs => laws_toBuffer xs.1 }
theorem ok_laws_toBuffer : FnOK Tryz.prog glob e_laws_toBuffer := by
  refine FnOK.of (e := e_laws_toBuffer) (C := cfg [] [e_laws_toChunkS] [] [] []) (cfg_ok rfl (env_cons ok_laws_toChunkS env_nil) envL_nil envB_nil envW_nil) rfl Tryz.func87 (c := codeOf Tryz.f87) rfl Tryz.call87 (by decide)
    (.leaf) ?_ ?_
  · exact conds_leaf _ _
  · intro xs r h
    refine Eq.trans (Eq.symm ?_) h
    kernel_rfl
@[reducible] noncomputable def e_laws_toReceiver : FnE := { f := 73, args := [tyReceiver], res := [tyReceiverx], F := fun xs => laws_toReceiver xs.1 }
theorem ok_laws_toReceiver : FnOK Tryz.prog glob e_laws_toReceiver := by
  refine FnOK.of (e := e_laws_toReceiver) (C := cfg [] [e_laws_toBuffer] [] [] []) (cfg_ok rfl (env_cons ok_laws_toBuffer env_nil) envL_nil envB_nil envW_nil) rfl Tryz.func73 (c := codeOf Tryz.f73) rfl Tryz.call73 (by decide)
    (.leaf) ?_ ?_
  · exact conds_leaf _ _
  · intro xs r h
    refine Eq.trans (Eq.symm ?_) h
    kernel_rfl
@[reducible] noncomputable def e_laws_toWindow : FnE := { f := 37, args := [tyWindow], res := [tyWindow], F := fun xs => laws_toWindow xs.1 }
theorem ok_laws_toWindow : FnOK Tryz.prog glob e_laws_toWindow := by
  refine FnOK.of (e := e_laws_toWindow) (C := cfg [] [] [] [] []) (cfg_ok rfl env_nil envL_nil envB_nil envW_nil) rfl Tryz.func37 (c := codeOf Tryz.f37) rfl Tryz.call37 (by decide)
    (.leaf) ?_ ?_
  · exact conds_leaf _ _
  · intro xs r h
    refine Eq.trans (Eq.symm ?_) h
    kernel_rfl
@[reducible] noncomputable def e_laws_toPriority : FnE := { f := 74, args := [tyPriority], res := [tyPriority], F := fun xs => laws_toPriority xs.1 }
theorem ok_laws_toPriority : FnOK Tryz.prog glob e_laws_toPriority := by
  refine FnOK.of (e := e_laws_toPriority) (C := cfg [] [] [] [] []) (cfg_ok rfl env_nil envL_nil envB_nil envW_nil) rfl Tryz.func74 (c := codeOf Tryz.f74) rfl Tryz.call74 (by decide)
    (.leaf) ?_ ?_
  · exact conds_leaf _ _
  · intro xs r h
    refine Eq.trans (Eq.symm ?_) h
    kernel_rfl
@[reducible] noncomputable def e_laws_toStream : FnE := { f := 60, args := [tyStream], res := [tyStreamx], F := fun xs => laws_toStream xs.1 }
theorem ok_laws_toStream : FnOK Tryz.prog glob e_laws_toStream := by
  refine FnOK.of (e := e_laws_toStream) (C := cfg [] [e_laws_toSender, e_laws_toCredit, e_laws_toReceiver, e_laws_toWindow, e_laws_toPriority] [] [] []) (cfg_ok rfl (env_cons ok_laws_toSender (env_cons ok_laws_toCredit (env_cons ok_laws_toReceiver (env_cons ok_laws_toWindow (env_cons ok_laws_toPriority env_nil))))) envL_nil envB_nil envW_nil) rfl Tryz.func60 (c := codeOf Tryz.f60) rfl Tryz.call60 (by decide)
    (.leaf) ?_ ?_
  · exact conds_leaf _ _
  · intro xs r h
    refine Eq.trans (Eq.symm ?_) h
    kernel_rfl
@[reducible] noncomputable def e_laws_toStreamS : FnE := { f := 35, args := [.slice 125 (tyStream)], res := [.slice 141 (tyStreamx)], F := fun xs => laws_toStreamS xs.1 }
theorem ok_laws_toStreamS : FnOK Tryz.prog glob e_laws_toStreamS := by
  refine FnOK.of (e := e_laws_toStreamS) (C := cfg [] [e_laws_toStream] [] [] []) (cfg_ok rfl (env_cons ok_laws_toStream env_nil) envL_nil envB_nil envW_nil) rfl Tryz.func35 (c := codeOf Tryz.f35) rfl Tryz.call35 (by decide)
    ((.seq .leaf (.seq .leaf (.seq (.seq .leaf (.block (.loop laws_toStreamS_l1_p (fun N v => laws_toStreamS_l1 N v.1 v.2.1 v.2.2.1) (fun v => laws_toStreamS_l1_fuel v.1 v.2.1 v.2.2.1) (fun K1 => .leaf)))) .leaf)))) ?_ ?_
  · exact ⟨conds_leaf _ _, ⟨conds_leaf _ _, ⟨⟨conds_leaf _ _, ⟨fun _ => rfl, fun N => ⟨(fun v => by kernel_rfl), conds_leaf _ _⟩⟩⟩, conds_leaf _ _⟩⟩⟩
  · intro xs r h
    refine Eq.trans (Eq.symm ?_) h
    kernel_rfl
@[reducible] noncomputable def e_laws_toCount : FnE := { f := 38, args := [tyCount], res := [tyCount], F := fun xs => laws_toCount xs.1 }
theorem ok_laws_toCount : FnOK Tryz.prog glob e_laws_toCount := by
  refine FnOK.of (e := e_laws_toCount) (C := cfg [] [] [] [] []) (cfg_ok rfl env_nil envL_nil envB_nil envW_nil) rfl Tryz.func38 (c := codeOf Tryz.f38) rfl Tryz.call38 (by decide)
    (.leaf) ?_ ?_
  · exact conds_leaf _ _
  · intro xs r h
    refine Eq.trans (Eq.symm ?_) h
    kernel_rfl
@[reducible] noncomputable def e_laws_toAllow : FnE := { f := 39, args := [tyAllow], res := [tyAllow], F := fun xs => laws_toAllow xs.1 }
theorem ok_laws_toAllow : FnOK Tryz.prog glob e_laws_toAllow := by
  refine FnOK.of (e := e_laws_toAllow) (C := cfg [] [] [] [] []) (cfg_ok rfl env_nil envL_nil envB_nil envW_nil) rfl Tryz.func39 (c := codeOf Tryz.f39) rfl Tryz.call39 (by decide)
    (.leaf) ?_ ?_
  · exact conds_leaf _ _
  · intro xs r h
    refine Eq.trans (Eq.symm ?_) h
    kernel_rfl
@[reducible] noncomputable def e_laws_toFrame : FnE := { f := 88, args := [tyFrame], res := [tyFrame], F := fun xs => laws_toFrame xs.1 }
theorem ok_laws_toFrame : FnOK Tryz.prog glob e_laws_toFrame := by
  refine FnOK.of (e := e_laws_toFrame) (C := cfg [] [] [] [] []) (cfg_ok rfl env_nil envL_nil envB_nil envW_nil) rfl Tryz.func88 (c := codeOf Tryz.f88) rfl Tryz.call88 (by decide)
    (.leaf) ?_ ?_
  · exact conds_leaf _ _
  · intro xs r h
    refine Eq.trans (Eq.symm ?_) h
    kernel_rfl
@[reducible] noncomputable def e_laws_toFrameS : FnE := { f := 75, args := [.slice 174 (tyFrame)], res := [.slice 169 (tyFrame)], F := fun xs => laws_toFrameS xs.1 }
theorem ok_laws_toFrameS : FnOK Tryz.prog glob e_laws_toFrameS := by
  refine FnOK.of (e := e_laws_toFrameS) (C := cfg [] [e_laws_toFrame] [] [] []) (cfg_ok rfl (env_cons ok_laws_toFrame env_nil) envL_nil envB_nil envW_nil) rfl Tryz.func75 (c := codeOf Tryz.f75) rfl Tryz.call75 (by decide)
    ((.seq .leaf (.seq .leaf (.seq (.seq .leaf (.block (.loop laws_toFrameS_l1_p (fun N v => laws_toFrameS_l1 N v.1 v.2.1 v.2.2.1) (fun v => laws_toFrameS_l1_fuel v.1 v.2.1 v.2.2.1) (fun K1 => .leaf)))) .leaf)))) ?_ ?_
  · exact ⟨conds_leaf _ _, ⟨conds_leaf _ _, ⟨⟨conds_leaf _ _, ⟨fun _ => rfl, fun N => ⟨(fun v => by kernel_rfl), conds_leaf _ _⟩⟩⟩, conds_leaf _ _⟩⟩⟩
  · intro xs r h
    refine Eq.trans (Eq.symm ?_) h
    kernel_rfl
@[reducible] noncomputable def e_laws_toPacket : FnE := { f := 61, args := [tyPacket], res := [tyPacketx], F := fun xs => laws_toPacket xs.1 }
theorem ok_laws_toPacket : FnOK Tryz.prog glob e_laws_toPacket := by
  refine FnOK.of (e := e_laws_toPacket) (C := cfg [] [e_laws_toFrameS] [] [] []) (cfg_ok rfl (env_cons ok_laws_toFrameS env_nil) envL_nil envB_nil envW_nil) rfl Tryz.func61 (c := codeOf Tryz.f61) rfl Tryz.call61 (by decide)
    (.leaf) ?_ ?_
  · exact conds_leaf _ _
  · intro xs r h
    refine Eq.trans (Eq.symm ?_) h
    kernel_rfl
@[reducible] noncomputable def e_laws_toPacketS : FnE := { f := 40, args := [.slice 129 (tyPacket)], res := [.slice 145 (tyPacketx)], F := fun xs => laws_toPacketS xs.1 }
theorem ok_laws_toPacketS : FnOK Tryz.prog glob e_laws_toPacketS := by
  refine FnOK.of (e := e_laws_toPacketS) (C := cfg [] [e_laws_toPacket] [] [] []) (cfg_ok rfl (env_cons ok_laws_toPacket env_nil) envL_nil envB_nil envW_nil) rfl Tryz.func40 (c := codeOf Tryz.f40) rfl Tryz.call40 (by decide)
    ((.seq .leaf (.seq .leaf (.seq (.seq .leaf (.block (.loop laws_toPacketS_l1_p (fun N v => laws_toPacketS_l1 N v.1 v.2.1 v.2.2.1) (fun v => laws_toPacketS_l1_fuel v.1 v.2.1 v.2.2.1) (fun K1 => .leaf)))) .leaf)))) ?_ ?_
  · exact ⟨conds_leaf _ _, ⟨conds_leaf _ _, ⟨⟨conds_leaf _ _, ⟨fun _ => rfl, fun N => ⟨(fun v => by kernel_rfl), conds_leaf _ _⟩⟩⟩, conds_leaf _ _⟩⟩⟩
  · intro xs r h
    refine Eq.trans (Eq.symm ?_) h
    kernel_rfl
@[reducible] noncomputable def e_laws_toConn : FnE := { f := 17, args := [tyConn], res := [tyConnx], F := fun xs => laws_toConn xs.1 }
theorem ok_laws_toConn : FnOK Tryz.prog glob e_laws_toConn := by
  refine FnOK.of (e := e_laws_toConn) (C := cfg [] [e_laws_toConf, e_laws_toStreamS, e_laws_toCredit, e_laws_toWindow, e_laws_toCount, e_laws_toAllow, e_laws_toPacketS] [] [] []) (cfg_ok rfl (env_cons ok_laws_toConf (env_cons ok_laws_toStreamS (env_cons ok_laws_toCredit (env_cons ok_laws_toWindow (env_cons ok_laws_toCount (env_cons ok_laws_toAllow (env_cons ok_laws_toPacketS env_nil))))))) envL_nil envB_nil envW_nil) rfl Tryz.func17 (c := codeOf Tryz.f17) rfl Tryz.call17 (by decide)
    (.leaf) ?_ ?_
  · exact conds_leaf _ _
  · intro xs r h
    refine Eq.trans (Eq.symm ?_) h
    kernel_rfl
@[reducible] noncomputable def e_laws_toLetter : FnE := { f := 41, args := [tyLetter], res := [tyLetter], F := fun xs => laws_toLetter xs.1 }
theorem ok_laws_toLetter : FnOK Tryz.prog glob e_laws_toLetter := by
  refine FnOK.of (e := e_laws_toLetter) (C := cfg [] [] [] [] []) (cfg_ok rfl env_nil envL_nil envB_nil envW_nil) rfl Tryz.func41 (c := codeOf Tryz.f41) rfl Tryz.call41 (by decide)
    (.leaf) ?_ ?_
  · exact conds_leaf _ _
  · intro xs r h
    refine Eq.trans (Eq.symm ?_) h
    kernel_rfl
@[reducible] noncomputable def e_laws_toLetterS : FnE := { f := 18, args := [.slice 82 (tyLetter)], res := [.slice 93 (tyLetter)], F := fun xs => laws_toLetterS xs.1 }
theorem ok_laws_toLetterS : FnOK Tryz.prog glob e_laws_toLetterS := by
  refine FnOK.of (e := e_laws_toLetterS) (C := cfg [] [e_laws_toLetter] [] [] []) (cfg_ok rfl (env_cons ok_laws_toLetter env_nil) envL_nil envB_nil envW_nil) rfl Tryz.func18 (c := codeOf Tryz.f18) rfl Tryz.call18 (by decide)
    ((.seq .leaf (.seq .leaf (.seq (.seq .leaf (.block (.loop laws_toLetterS_l1_p (fun N v => laws_toLetterS_l1 N v.1 v.2.1 v.2.2.1) (fun v => laws_toLetterS_l1_fuel v.1 v.2.1 v.2.2.1) (fun K1 => .leaf)))) .leaf)))) ?_ ?_
  · exact ⟨conds_leaf _ _, ⟨conds_leaf _ _, ⟨⟨conds_leaf _ _, ⟨fun _ => rfl, fun N => ⟨(fun v => by kernel_rfl), conds_leaf _ _⟩⟩⟩, conds_leaf _ _⟩⟩⟩
  · intro xs r h
    refine Eq.trans (Eq.symm ?_) h
    kernel_rfl
@[reducible] noncomputable def e_laws_toTrack : FnE := { f := 42, args := [tyTrack], res := [tyTrack], F := fun xs => laws_toTrack xs.1 }
theorem ok_laws_toTrack : FnOK Tryz.prog glob e_laws_toTrack := by
  refine FnOK.of (e := e_laws_toTrack) (C := cfg [] [] [] [] []) (cfg_ok rfl env_nil envL_nil envB_nil envW_nil) rfl Tryz.func42 (c := codeOf Tryz.f42) rfl Tryz.call42 (by decide)
    (.leaf) ?_ ?_
  · exact conds_leaf _ _
  · intro xs r h
    refine Eq.trans (Eq.symm ?_) h
    kernel_rfl
@[reducible] noncomputable def e_laws_toTrackS : FnE := { f := 19, args := [.slice 84 (tyTrack)], res := [.slice 67 (tyTrack)], F := fun xs => laws_toTrackS xs.1 }
theorem ok_laws_toTrackS : FnOK Tryz.prog glob e_laws_toTrackS := by
  refine FnOK.of (e := e_laws_toTrackS) (C := cfg [] [e_laws_toTrack] [] [] []) (cfg_ok rfl (env_cons ok_laws_toTrack env_nil) envL_nil envB_nil envW_nil) rfl Tryz.func19 (c := codeOf Tryz.f19) rfl Tryz.call19 (by decide)
    ((.seq .leaf (.seq .leaf (.seq (.seq .leaf (.block (.loop laws_toTrackS_l1_p (fun N v => laws_toTrackS_l1 N v.1 v.2.1 v.2.2.1) (fun v => laws_toTrackS_l1_fuel v.1 v.2.1 v.2.2.1) (fun K1 => .leaf)))) .leaf)))) ?_ ?_
  · exact ⟨conds_leaf _ _, ⟨conds_leaf _ _, ⟨⟨conds_leaf _ _, ⟨fun _ => rfl, fun N => ⟨(fun v => by kernel_rfl), conds_leaf _ _⟩⟩⟩, conds_leaf _ _⟩⟩⟩
  · intro xs r h
    refine Eq.trans (Eq.symm ?_) h
    kernel_rfl
@[reducible] noncomputable def e_laws_toPair : FnE := { f := 6, args := [tyPair], res := [tyPairx], F := fun xs => laws_toPair xs.1 }
theorem ok_laws_toPair : FnOK Tryz.prog glob e_laws_toPair := by
  refine FnOK.of (e := e_laws_toPair) (C := cfg [] [e_laws_toConn, e_laws_toLetterS, e_laws_toTrackS] [] [] []) (cfg_ok rfl (env_cons ok_laws_toConn (env_cons ok_laws_toLetterS (env_cons ok_laws_toTrackS env_nil))) envL_nil envB_nil envW_nil) rfl Tryz.func6 (c := codeOf Tryz.f6) rfl Tryz.call6 (by decide)
    (.leaf) ?_ ?_
  · exact conds_leaf _ _
  · intro xs r h
    refine Eq.trans (Eq.symm ?_) h
    kernel_rfl
@[reducible] noncomputable def e_spec_l1In : FnE := { f := 59, args := [.int .i64, .int .i64, .int .i64], res := [.bool], F := fun xs => spec_l1In xs.1 xs.2.1 xs.2.2.1 }
theorem ok_spec_l1In : FnOK Tryz.prog glob e_spec_l1In := by
  refine FnOK.of (e := e_spec_l1In) (C := cfg [] [] [] [] []) (cfg_ok rfl env_nil envL_nil envB_nil envW_nil) rfl Tryz.func59 (c := codeOf Tryz.f59) rfl Tryz.call59 (by decide)
    (.leaf) ?_ ?_
  · exact conds_leaf _ _
  · intro xs r h
    refine Eq.trans (Eq.symm ?_) h
    kernel_rfl
@[reducible] noncomputable def e_spec_l32Small : FnE := { f := 32, args := [.int .i64], res := [.bool], F := fun xs => spec_l32Small xs.1 }
theorem ok_spec_l32Small : FnOK Tryz.prog glob e_spec_l32Small := by
  refine FnOK.of (e := e_spec_l32Small) (C := cfg [] [e_spec_l1In] [] [] []) (cfg_ok rfl (env_cons ok_spec_l1In env_nil) envL_nil envB_nil envW_nil) rfl Tryz.func32 (c := codeOf Tryz.f32) rfl Tryz.call32 (by decide)
    (.leaf) ?_ ?_
  · exact conds_leaf _ _
  · intro xs r h
    refine Eq.trans (Eq.symm ?_) h
    kernel_rfl
@[reducible] noncomputable def e_spec_FormatInt : FnE := { f := 33, args := [.int .i64], res := [.str], F := fun xs => spec_FormatInt xs.1 }
theorem ok_spec_FormatInt : FnOK Tryz.prog glob e_spec_FormatInt := by
  refine FnOK.of (e := e_spec_FormatInt) (C := cfg [] [] [] [] []) (cfg_ok rfl env_nil envL_nil envB_nil envW_nil) rfl Tryz.func33 (c := codeOf Tryz.f33) rfl Tryz.call33 (by decide)
    ((.seq .leaf (.seq .leaf (.seq .leaf (.seq .leaf (.seq (.block (.loop spec_FormatInt_l1_p (fun N v => spec_FormatInt_l1 N v.1 v.2.1 v.2.2.1) (fun v => spec_FormatInt_l1_fuel v.1 v.2.1 v.2.2.1) (fun K1 => (.seq .leaf (.block (.seq .leaf (.join spec_FormatInt_j1_p (fun v => spec_FormatInt_j1 K1 v.1 v.2.1 v.2.2.1 v.2.2.2.1) .leaf .leaf))))))) .leaf)))))) ?_ ?_
  · exact ⟨conds_leaf _ _, ⟨conds_leaf _ _, ⟨conds_leaf _ _, ⟨conds_leaf _ _, ⟨⟨fun _ => rfl, fun N => ⟨(fun v => by kernel_rfl), ⟨conds_leaf _ _, ⟨conds_leaf _ _, ⟨conds_leaf _ _, (fun v => by kernel_rfl), conds_leaf _ _⟩⟩⟩⟩⟩, conds_leaf _ _⟩⟩⟩⟩⟩
  · intro xs r h
    refine Eq.trans (Eq.symm ?_) h
    kernel_rfl
@[reducible] noncomputable def e_spec_TrackLine : FnE := { f := 16, args := [tyTrack], res := [.str], F := fun xs => spec_TrackLine xs.1 }
theorem ok_spec_TrackLine : FnOK Tryz.prog glob e_spec_TrackLine := by
  refine FnOK.of (e := e_spec_TrackLine) (C := cfg [] [e_spec_l32Small, e_spec_FormatInt] [] [] []) (cfg_ok rfl (env_cons ok_spec_l32Small (env_cons ok_spec_FormatInt env_nil)) envL_nil envB_nil envW_nil) rfl Tryz.func16 (c := codeOf Tryz.f16) rfl Tryz.call16 (by decide)
    ((.seq .leaf (.seq .leaf (.seq .leaf (.join spec_TrackLine_j1_p (fun v => spec_TrackLine_j1 v.1 v.2.1) .leaf .leaf))))) ?_ ?_
  · exact ⟨conds_leaf _ _, ⟨conds_leaf _ _, ⟨conds_leaf _ _, ⟨conds_leaf _ _, (fun v => by kernel_rfl), conds_leaf _ _⟩⟩⟩⟩
  · intro xs r h
    refine Eq.trans (Eq.symm ?_) h
    kernel_rfl
@[reducible] noncomputable def e_spec_TrackLines : FnE := { f := 5, args := [tyPairx], res := [.slice 9 (.str)], F := fun xs => spec_TrackLines xs.1 }
theorem ok_spec_TrackLines : FnOK Tryz.prog glob e_spec_TrackLines := by
  refine FnOK.of (e := e_spec_TrackLines) (C := cfg [] [e_spec_TrackLine] [] [] []) (cfg_ok rfl (env_cons ok_spec_TrackLine env_nil) envL_nil envB_nil envW_nil) rfl Tryz.func5 (c := codeOf Tryz.f5) rfl Tryz.call5 (by decide)
    ((.seq .leaf (.seq .leaf (.seq (.seq .leaf (.block (.loop spec_TrackLines_l1_p (fun N v => spec_TrackLines_l1 N v.1 v.2.1 v.2.2.1) (fun v => spec_TrackLines_l1_fuel v.1 v.2.1 v.2.2.1) (fun K1 => .leaf)))) .leaf)))) ?_ ?_
  · exact ⟨conds_leaf _ _, ⟨conds_leaf _ _, ⟨⟨conds_leaf _ _, ⟨fun _ => rfl, fun N => ⟨(fun v => by kernel_rfl), conds_leaf _ _⟩⟩⟩, conds_leaf _ _⟩⟩⟩
  · intro xs r h
    refine Eq.trans (Eq.symm ?_) h
    kernel_rfl
@[reducible] noncomputable def e_impl_within : FnE := { f := 43, args := [.int .i64, .int .i64, .int .i64], res := [.bool], F := fun xs => impl_within xs.1 xs.2.1 xs.2.2.1 }
theorem ok_impl_within : FnOK Tryz.prog glob e_impl_within := by
  refine FnOK.of (e := e_impl_within) (C := cfg [] [] [] [] []) (cfg_ok rfl env_nil envL_nil envB_nil envW_nil) rfl Tryz.func43 (c := codeOf Tryz.f43) rfl Tryz.call43 (by decide)
    (.leaf) ?_ ?_
  · exact conds_leaf _ _
  · intro xs r h
    refine Eq.trans (Eq.symm ?_) h
    kernel_rfl
@[reducible] noncomputable def e_strconv_Itoa : FnE := { f := 62, args := [.int .i64], res := [.str], F := fun xs => strconv_Itoa xs.1 }
theorem ok_strconv_Itoa : FnOK Tryz.prog glob e_strconv_Itoa :=
  FnOK.intStr Tryz.call62 fun n w hg h0 h1 => (Tryz.strconv_Itoa n h0 h1 w (hg _ (List.getElem_mem (n := 0) (by decide)))).mono fun e w' ⟨he, k, os, hw⟩ => ⟨he, hw ▸ Go.Lib.below_grow _ _ (Nat.le_refl _) k os⟩
@[reducible] noncomputable def e_impl_FormatInt : FnE := { f := 44, args := [.int .i64], res := [.str], F := fun xs => impl_FormatInt xs.1 }
theorem ok_impl_FormatInt : FnOK Tryz.prog glob e_impl_FormatInt := by
  refine FnOK.of (e := e_impl_FormatInt) (C := cfg [] [e_strconv_Itoa] [] [] []) (cfg_ok rfl (env_cons ok_strconv_Itoa env_nil) envL_nil envB_nil envW_nil) rfl Tryz.func44 (c := codeOf Tryz.f44) rfl Tryz.call44 (by decide)
    (.leaf) ?_ ?_
  · exact conds_leaf _ _
  · intro xs r h
    refine Eq.trans (Eq.symm ?_) h
    kernel_rfl
@[reducible] noncomputable def e_impl_told : FnE := { f := 45, args := [.bool, .str, .str], res := [.str], F := fun xs => impl_told xs.1 xs.2.1 xs.2.2.1 }
theorem ok_impl_told : FnOK Tryz.prog glob e_impl_told := by
  refine FnOK.of (e := e_impl_told) (C := cfg [] [] [] [] []) (cfg_ok rfl env_nil envL_nil envB_nil envW_nil) rfl Tryz.func45 (c := codeOf Tryz.f45) rfl Tryz.call45 (by decide)
    (.leaf) ?_ ?_
  · exact conds_leaf _ _
  · intro xs r h
    refine Eq.trans (Eq.symm ?_) h
    kernel_rfl
@[reducible] noncomputable def e_impl_TrackLine : FnE := { f := 20, args := [tyTrack], res := [.str], F := fun xs => impl_TrackLine xs.1 }
theorem ok_impl_TrackLine : FnOK Tryz.prog glob e_impl_TrackLine := by
  refine FnOK.of (e := e_impl_TrackLine) (C := cfg [] [e_impl_within, e_impl_FormatInt, e_impl_told] [] [] []) (cfg_ok rfl (env_cons ok_impl_within (env_cons ok_impl_FormatInt (env_cons ok_impl_told env_nil))) envL_nil envB_nil envW_nil) rfl Tryz.func20 (c := codeOf Tryz.f20) rfl Tryz.call20 (by decide)
    (.leaf) ?_ ?_
  · exact conds_leaf _ _
  · intro xs r h
    refine Eq.trans (Eq.symm ?_) h
    kernel_rfl
@[reducible] noncomputable def e_impl_TrackLines : FnE := { f := 7, args := [tyPairx], res := [.slice 9 (.str)], F := fun xs => impl_TrackLines xs.1 }
theorem ok_impl_TrackLines : FnOK Tryz.prog glob e_impl_TrackLines := by
  refine FnOK.of (e := e_impl_TrackLines) (C := cfg [] [e_impl_TrackLine] [] [] []) (cfg_ok rfl (env_cons ok_impl_TrackLine env_nil) envL_nil envB_nil envW_nil) rfl Tryz.func7 (c := codeOf Tryz.f7) rfl Tryz.call7 (by decide)
    ((.seq .leaf (.seq .leaf (.seq (.seq .leaf (.block (.loop impl_TrackLines_l1_p (fun N v => impl_TrackLines_l1 N v.1 v.2.1 v.2.2.1 v.2.2.2.1) (fun v => impl_TrackLines_l1_fuel v.1 v.2.1 v.2.2.1 v.2.2.2.1) (fun K1 => .leaf)))) .leaf)))) ?_ ?_
  · exact ⟨conds_leaf _ _, ⟨conds_leaf _ _, ⟨⟨conds_leaf _ _, ⟨fun _ => rfl, fun N => ⟨(fun v => by kernel_rfl), conds_leaf _ _⟩⟩⟩, conds_leaf _ _⟩⟩⟩
  · intro xs r h
    refine Eq.trans (Eq.symm ?_) h
    kernel_rfl
@[reducible] noncomputable def e_laws_eqStringS : FnE := { f := 8, args := [.slice 9 (.str), .slice 9 (.str)], res := [.bool], F := fun xs => laws_eqStringS xs.1 xs.2.1 }
theorem ok_laws_eqStringS : FnOK Tryz.prog glob e_laws_eqStringS := by
  refine FnOK.of (e := e_laws_eqStringS) (C := cfg [] [] [] [] []) (cfg_ok rfl env_nil envL_nil envB_nil envW_nil) rfl Tryz.func8 (c := codeOf Tryz.f8) rfl Tryz.call8 (by decide)
    ((.seq .leaf (.seq .leaf (.seq (.seq .leaf (.block (.loop laws_eqStringS_l1_p (fun N v => laws_eqStringS_l1 N v.1 v.2.1 v.2.2.1) (fun v => laws_eqStringS_l1_fuel v.1 v.2.1 v.2.2.1) (fun K1 => .leaf)))) .leaf)))) ?_ ?_
  · exact ⟨conds_leaf _ _, ⟨conds_leaf _ _, ⟨⟨conds_leaf _ _, ⟨fun _ => rfl, fun N => ⟨(fun v => by kernel_rfl), conds_leaf _ _⟩⟩⟩, conds_leaf _ _⟩⟩⟩
  · intro xs r h
    refine Eq.trans (Eq.symm ?_) h
    kernel_rfl
@[reducible] noncomputable def e_laws_eqConf : FnE := { f := 46, args := [tyConf, tyConf], res := [.bool], F := fun xs => laws_eqConf xs.1 xs.2.1 }
theorem ok_laws_eqConf : FnOK Tryz.prog glob e_laws_eqConf := by
  refine FnOK.of (e := e_laws_eqConf) (C := cfg [] [] [] [] []) (cfg_ok rfl env_nil envL_nil envB_nil envW_nil) rfl Tryz.func46 (c := codeOf Tryz.f46) rfl Tryz.call46 (by decide)
    (.leaf) ?_ ?_
  · exact conds_leaf _ _
  · intro xs r h
    refine Eq.trans (Eq.symm ?_) h
    kernel_rfl
@[reducible] noncomputable def e_laws_eqIntS : FnE := { f := 103, args := [.slice 3 (.int .i64), .slice 3 (.int .i64)], res := [.bool], F := fun xs => laws_eqIntS xs.1 xs.2.1 }
theorem ok_laws_eqIntS : FnOK Tryz.prog glob e_laws_eqIntS := by
  refine FnOK.of (e := e_laws_eqIntS) (C := cfg [] [] [] [] []) (cfg_ok rfl env_nil envL_nil envB_nil envW_nil) rfl Tryz.func103 (c := codeOf Tryz.f103) rfl Tryz.call103 (by decide)
    ((.seq .leaf (.seq .leaf (.seq (.seq .leaf (.block (.loop laws_eqIntS_l1_p (fun N v => laws_eqIntS_l1 N v.1 v.2.1 v.2.2.1) (fun v => laws_eqIntS_l1_fuel v.1 v.2.1 v.2.2.1) (fun K1 => .leaf)))) .leaf)))) ?_ ?_
  · exact ⟨conds_leaf _ _, ⟨conds_leaf _ _, ⟨⟨conds_leaf _ _, ⟨fun _ => rfl, fun N => ⟨(fun v => by kernel_rfl), conds_leaf _ _⟩⟩⟩, conds_leaf _ _⟩⟩⟩
  · intro xs r h
    refine Eq.trans (Eq.symm ?_) h
    kernel_rfl
@[reducible] noncomputable def e_laws_eqRing : FnE := { f := 90, args := [tyRing, tyRing], res := [.bool], F := fun xs => laws_eqRing xs.1 xs.2.1 }
theorem ok_laws_eqRing : FnOK Tryz.prog glob e_laws_eqRing := by
  refine FnOK.of (e := e_laws_eqRing) (C := cfg [] [e_laws_eqIntS] [] [] []) (cfg_ok rfl (env_cons ok_laws_eqIntS env_nil) envL_nil envB_nil envW_nil) rfl Tryz.func90 (c := codeOf Tryz.f90) rfl Tryz.call90 (by decide)
    (.leaf) ?_ ?_
  · exact conds_leaf _ _
  · intro xs r h
    refine Eq.trans (Eq.symm ?_) h
    kernel_rfl
@[reducible] noncomputable def e_laws_eqRange : FnE := { f := 104, args := [tyRange, tyRange], res := [.bool], F := fun xs => laws_eqRange xs.1 xs.2.1 }
theorem ok_laws_eqRange : FnOK Tryz.prog glob e_laws_eqRange := by
  refine FnOK.of (e := e_laws_eqRange) (C := cfg [] [] [] [] []) (cfg_ok rfl env_nil envL_nil envB_nil envW_nil) rfl Tryz.func104 (c := codeOf Tryz.f104) rfl Tryz.call104 (by decide)
    (.leaf) ?_ ?_
  · exact conds_leaf _ _
  · intro xs r h
    refine Eq.trans (Eq.symm ?_) h
    kernel_rfl
@[reducible] noncomputable def e_laws_eqRangeS : FnE := { f := 91, args := [.slice 165 (tyRange), .slice 165 (tyRange)], res := [.bool], F := fun xs => laws_eqRangeS xs.1 xs.2.1 }
theorem ok_laws_eqRangeS : FnOK Tryz.prog glob e_laws_eqRangeS := by
  refine FnOK.of (e := e_laws_eqRangeS) (C := cfg [] [e_laws_eqRange] [] [] []) (cfg_ok rfl (env_cons ok_laws_eqRange env_nil) envL_nil envB_nil envW_nil) rfl Tryz.func91 (c := codeOf Tryz.f91) rfl Tryz.call91 (by decide)
    ((.seq .leaf (.seq .leaf (.seq (.seq .leaf (.block (.loop laws_eqRangeS_l1_p (fun N v => laws_eqRangeS_l1 N v.1 v.2.1 v.2.2.1) (fun v => laws_eqRangeS_l1_fuel v.1 v.2.1 v.2.2.1) (fun K1 => .leaf)))) .leaf)))) ?_ ?_
  · exact ⟨conds_leaf _ _, ⟨conds_leaf _ _, ⟨⟨conds_leaf _ _, ⟨fun _ => rfl, fun N => ⟨(fun v => by kernel_rfl), conds_leaf _ _⟩⟩⟩, conds_leaf _ _⟩⟩⟩
  · intro xs r h
    refine Eq.trans (Eq.symm ?_) h
    kernel_rfl
@[reducible] noncomputable def e_laws_eqSender : FnE := { f := 77, args := [tySenderx, tySenderx], res := [.bool], F := fun xs => laws_eqSender xs.1 xs.2.1 }
theorem ok_laws_eqSender : FnOK Tryz.prog glob e_laws_eqSender := by
  refine FnOK.of (e := e_laws_eqSender) (C := cfg [] [e_laws_eqRing, e_laws_eqRangeS] [] [] []) (cfg_ok rfl (env_cons ok_laws_eqRing (env_cons ok_laws_eqRangeS env_nil)) envL_nil envB_nil envW_nil) rfl Tryz.func77 (c := codeOf Tryz.f77) rfl Tryz.call77 (by decide)
    (.leaf) ?_ ?_
  · exact conds_leaf _ _
  · intro xs r h
    refine Eq.trans (Eq.symm ?_) h
    kernel_rfl
@[reducible] noncomputable def e_laws_eqCredit : FnE := { f := 48, args := [tyAllow, tyAllow], res := [.bool], F := fun xs => laws_eqCredit xs.1 xs.2.1 }
theorem ok_laws_eqCredit : FnOK Tryz.prog glob e_laws_eqCredit := by
  refine FnOK.of (e := e_laws_eqCredit) (C := cfg [] [] [] [] []) (cfg_ok rfl env_nil envL_nil envB_nil envW_nil) rfl Tryz.func48 (c := codeOf Tryz.f48) rfl Tryz.call48 (by decide)
    (.leaf) ?_ ?_
  · exact conds_leaf _ _
  · intro xs r h
    refine Eq.trans (Eq.symm ?_) h
    kernel_rfl
@[reducible] noncomputable def e_laws_eqChunk : FnE := { f := 113, args := [tyLetter, tyLetter], res := [.bool], F := fun xs => laws_eqChunk xs.1 xs.2.1 }
theorem ok_laws_eqChunk : FnOK Tryz.prog glob e_laws_eqChunk := by
  refine FnOK.of (e := e_laws_eqChunk) (C := cfg [] [] [] [] []) (cfg_ok rfl env_nil envL_nil envB_nil envW_nil) rfl Tryz.func113 (c := codeOf Tryz.f113) rfl Tryz.call113 (by decide)
    (.leaf) ?_ ?_
  · exact conds_leaf _ _
  · intro xs r h
    refine Eq.trans (Eq.symm ?_) h
    kernel_rfl
@[reducible] noncomputable def e_laws_eqChunkS : FnE := { f := 105, args := [.slice 167 (tyLetter), .slice 167 (tyLetter)], res := [.bool], F := fun xs => laws_eqChunkS xs.1 xs.2.1 }
theorem ok_laws_eqChunkS : FnOK Tryz.prog glob e_laws_eqChunkS := by
  refine FnOK.of (e := e_laws_eqChunkS) (C := cfg [] [e_laws_eqChunk] [] [] []) (cfg_ok rfl (env_cons ok_laws_eqChunk env_nil) envL_nil envB_nil envW_nil) rfl Tryz.func105 (c := codeOf Tryz.f105) rfl Tryz.call105 (by decide)
    ((.seq .leaf (.seq .leaf (.seq (.seq .leaf (.block (.loop laws_eqChunkS_l1_p (fun N v => laws_eqChunkS_l1 N v.1 v.2.1 v.2.2.1) (fun v => laws_eqChunkS_l1_fuel v.1 v.2.1 v.2.2.1) (fun K1 => .leaf)))) .leaf)))) ?_ ?_
  · exact ⟨conds_leaf _ _, ⟨conds_leaf _ _, ⟨⟨conds_leaf _ _, ⟨fun _ => rfl, fun N => ⟨(fun v => by kernel_rfl), conds_leaf _ _⟩⟩⟩, conds_leaf _ _⟩⟩⟩
  · intro xs r h
    refine Eq.trans (Eq.symm ?_) h
    kernel_rfl
@[reducible] noncomputable def e_laws_eqBuffer : FnE := { f := 92, args := [tyBufferx, tyBufferx], res := [.bool], F := fun xs => laws_eqBuffer xs.1 xs.2.1 }
theorem ok_laws_eqBuffer : FnOK Tryz.prog glob e_laws_eqBuffer := by
  refine FnOK.of (e := e_laws_eqBuffer) (C := cfg [] [e_laws_eqChunkS] [] [] []) (cfg_ok rfl (env_cons ok_laws_eqChunkS env_nil) envL_nil envB_nil envW_nil) rfl Tryz.func92 (c := codeOf Tryz.f92) rfl Tryz.call92 (by decide)
    (.leaf) ?_ ?_
  · exact conds_leaf _ _
  · intro xs r h
    refine Eq.trans (Eq.symm ?_) h
    kernel_rfl
@[reducible] noncomputable def e_laws_eqReceiver : FnE := { f := 78, args := [tyReceiverx, tyReceiverx], res := [.bool], F := fun xs => laws_eqReceiver xs.1 xs.2.1 }
theorem ok_laws_eqReceiver : FnOK Tryz.prog glob e_laws_eqReceiver := by
  refine FnOK.of (e := e_laws_eqReceiver) (C := cfg [] [e_laws_eqBuffer] [] [] []) (cfg_ok rfl (env_cons ok_laws_eqBuffer env_nil) envL_nil envB_nil envW_nil) rfl Tryz.func78 (c := codeOf Tryz.f78) rfl Tryz.call78 (by decide)
    (.leaf) ?_ ?_
  · exact conds_leaf _ _
  · intro xs r h
    refine Eq.trans (Eq.symm ?_) h
    kernel_rfl
@[reducible] noncomputable def e_laws_eqWindow : FnE := { f := 49, args := [tyWindow, tyWindow], res := [.bool], F := fun xs => laws_eqWindow xs.1 xs.2.1 }
theorem ok_laws_eqWindow : FnOK Tryz.prog glob e_laws_eqWindow := by
  refine FnOK.of (e := e_laws_eqWindow) (C := cfg [] [] [] [] []) (cfg_ok rfl env_nil envL_nil envB_nil envW_nil) rfl Tryz.func49 (c := codeOf Tryz.f49) rfl Tryz.call49 (by decide)
    (.leaf) ?_ ?_
  · exact conds_leaf _ _
  · intro xs r h
    refine Eq.trans (Eq.symm ?_) h
    kernel_rfl
@[reducible] noncomputable def e_laws_eqPriority : FnE := { f := 79, args := [tyPriority, tyPriority], res := [.bool], F := fun xs => laws_eqPriority xs.1 xs.2.1 }
theorem ok_laws_eqPriority : FnOK Tryz.prog glob e_laws_eqPriority := by
  refine FnOK.of (e := e_laws_eqPriority) (C := cfg [] [] [] [] []) (cfg_ok rfl env_nil envL_nil envB_nil envW_nil) rfl Tryz.func79 (c := codeOf Tryz.f79) rfl Tryz.call79 (by decide)
    (.leaf) ?_ ?_
  · exact conds_leaf _ _
  · intro xs r h
    refine Eq.trans (Eq.symm ?_) h
    kernel_rfl
@[reducible] noncomputable def e_laws_eqStream : FnE := { f := 63, args := [tyStreamx, tyStreamx], res := [.bool], F := fun xs => laws_eqStream xs.1 xs.2.1 }
theorem ok_laws_eqStream : FnOK Tryz.prog glob e_laws_eqStream := by
  refine FnOK.of (e := e_laws_eqStream) (C := cfg [] [e_laws_eqSender, e_laws_eqCredit, e_laws_eqReceiver, e_laws_eqWindow, e_laws_eqPriority] [] [] []) (cfg_ok rfl (env_cons ok_laws_eqSender (env_cons ok_laws_eqCredit (env_cons ok_laws_eqReceiver (env_cons ok_laws_eqWindow (env_cons ok_laws_eqPriority env_nil))))) envL_nil envB_nil envW_nil) rfl Tryz.func63 (c := codeOf Tryz.f63) rfl Tryz.call63 (by decide)
    (.leaf) ?_ ?_
  · exact conds_leaf _ _
  · intro xs r h
    refine Eq.trans (Eq.symm ?_) h
    kernel_rfl
@[reducible] noncomputable def e_laws_eqStreamS : FnE := { f := 47, args := [.slice 141 (tyStreamx), .slice 141 (tyStreamx)], res := [.bool], F := fun xs => laws_eqStreamS xs.1 xs.2.1 }
theorem ok_laws_eqStreamS : FnOK Tryz.prog glob e_laws_eqStreamS := by
  refine FnOK.of (e := e_laws_eqStreamS) (C := cfg [] [e_laws_eqStream] [] [] []) (cfg_ok rfl (env_cons ok_laws_eqStream env_nil) envL_nil envB_nil envW_nil) rfl Tryz.func47 (c := codeOf Tryz.f47) rfl Tryz.call47 (by decide)
    ((.seq .leaf (.seq .leaf (.seq (.seq .leaf (.block (.loop laws_eqStreamS_l1_p (fun N v => laws_eqStreamS_l1 N v.1 v.2.1 v.2.2.1) (fun v => laws_eqStreamS_l1_fuel v.1 v.2.1 v.2.2.1) (fun K1 => .leaf)))) .leaf)))) ?_ ?_
  · exact ⟨conds_leaf _ _, ⟨conds_leaf _ _, ⟨⟨conds_leaf _ _, ⟨fun _ => rfl, fun N => ⟨(fun v => by kernel_rfl), conds_leaf _ _⟩⟩⟩, conds_leaf _ _⟩⟩⟩
  · intro xs r h
    refine Eq.trans (Eq.symm ?_) h
    kernel_rfl
@[reducible] noncomputable def e_laws_eqCount : FnE := { f := 50, args := [tyCount, tyCount], res := [.bool], F := fun xs => laws_eqCount xs.1 xs.2.1 }
theorem ok_laws_eqCount : FnOK Tryz.prog glob e_laws_eqCount := by
  refine FnOK.of (e := e_laws_eqCount) (C := cfg [] [] [] [] []) (cfg_ok rfl env_nil envL_nil envB_nil envW_nil) rfl Tryz.func50 (c := codeOf Tryz.f50) rfl Tryz.call50 (by decide)
    (.leaf) ?_ ?_
  · exact conds_leaf _ _
  · intro xs r h
    refine Eq.trans (Eq.symm ?_) h
    kernel_rfl
@[reducible] noncomputable def e_laws_eqAllow : FnE := { f := 51, args := [tyAllow, tyAllow], res := [.bool], F := fun xs => laws_eqAllow xs.1 xs.2.1 }
theorem ok_laws_eqAllow : FnOK Tryz.prog glob e_laws_eqAllow := by
  refine FnOK.of (e := e_laws_eqAllow) (C := cfg [] [] [] [] []) (cfg_ok rfl env_nil envL_nil envB_nil envW_nil) rfl Tryz.func51 (c := codeOf Tryz.f51) rfl Tryz.call51 (by decide)
    (.leaf) ?_ ?_
  · exact conds_leaf _ _
  · intro xs r h
    refine Eq.trans (Eq.symm ?_) h
    kernel_rfl
@[reducible] noncomputable def e_laws_eqFrame : FnE := { f := 93, args := [tyFrame, tyFrame], res := [.bool], F := fun xs => laws_eqFrame xs.1 xs.2.1 }
theorem ok_laws_eqFrame : FnOK Tryz.prog glob e_laws_eqFrame := by
  refine FnOK.of (e := e_laws_eqFrame) (C := cfg [] [] [] [] []) (cfg_ok rfl env_nil envL_nil envB_nil envW_nil) rfl Tryz.func93 (c := codeOf Tryz.f93) rfl Tryz.call93 (by decide)
    (.leaf) ?_ ?_
  · exact conds_leaf _ _
  · intro xs r h
    refine Eq.trans (Eq.symm ?_) h
    kernel_rfl
@[reducible] noncomputable def e_laws_eqFrameS : FnE := { f := 80, args := [.slice 169 (tyFrame), .slice 169 (tyFrame)], res := [.bool], F := fun xs => laws_eqFrameS xs.1 xs.2.1 }
theorem ok_laws_eqFrameS : FnOK Tryz.prog glob e_laws_eqFrameS := by
  refine FnOK.of (e := e_laws_eqFrameS) (C := cfg [] [e_laws_eqFrame] [] [] []) (cfg_ok rfl (env_cons ok_laws_eqFrame env_nil) envL_nil envB_nil envW_nil) rfl Tryz.func80 (c := codeOf Tryz.f80) rfl Tryz.call80 (by decide)
    ((.seq .leaf (.seq .leaf (.seq (.seq .leaf (.block (.loop laws_eqFrameS_l1_p (fun N v => laws_eqFrameS_l1 N v.1 v.2.1 v.2.2.1) (fun v => laws_eqFrameS_l1_fuel v.1 v.2.1 v.2.2.1) (fun K1 => .leaf)))) .leaf)))) ?_ ?_
  · exact ⟨conds_leaf _ _, ⟨conds_leaf _ _, ⟨⟨conds_leaf _ _, ⟨fun _ => rfl, fun N => ⟨(fun v => by kernel_rfl), conds_leaf _ _⟩⟩⟩, conds_leaf _ _⟩⟩⟩
  · intro xs r h
    refine Eq.trans (Eq.symm ?_) h
    kernel_rfl
@[reducible] noncomputable def e_laws_eqPacket : FnE := { f := 64, args := [tyPacketx, tyPacketx], res := [.bool], F := fun xs => laws_eqPacket xs.1 xs.2.1 }
theorem ok_laws_eqPacket : FnOK Tryz.prog glob e_laws_eqPacket := by
  refine FnOK.of (e := e_laws_eqPacket) (C := cfg [] [e_laws_eqFrameS] [] [] []) (cfg_ok rfl (env_cons ok_laws_eqFrameS env_nil) envL_nil envB_nil envW_nil) rfl Tryz.func64 (c := codeOf Tryz.f64) rfl Tryz.call64 (by decide)
    (.leaf) ?_ ?_
  · exact conds_leaf _ _
  · intro xs r h
    refine Eq.trans (Eq.symm ?_) h
    kernel_rfl
@[reducible] noncomputable def e_laws_eqPacketS : FnE := { f := 52, args := [.slice 145 (tyPacketx), .slice 145 (tyPacketx)], res := [.bool], F := fun xs => laws_eqPacketS xs.1 xs.2.1 }
theorem ok_laws_eqPacketS : FnOK Tryz.prog glob e_laws_eqPacketS := by
  refine FnOK.of (e := e_laws_eqPacketS) (C := cfg [] [e_laws_eqPacket] [] [] []) (cfg_ok rfl (env_cons ok_laws_eqPacket env_nil) envL_nil envB_nil envW_nil) rfl Tryz.func52 (c := codeOf Tryz.f52) rfl Tryz.call52 (by decide)
    ((.seq .leaf (.seq .leaf (.seq (.seq .leaf (.block (.loop laws_eqPacketS_l1_p (fun N v => laws_eqPacketS_l1 N v.1 v.2.1 v.2.2.1) (fun v => laws_eqPacketS_l1_fuel v.1 v.2.1 v.2.2.1) (fun K1 => .leaf)))) .leaf)))) ?_ ?_
  · exact ⟨conds_leaf _ _, ⟨conds_leaf _ _, ⟨⟨conds_leaf _ _, ⟨fun _ => rfl, fun N => ⟨(fun v => by kernel_rfl), conds_leaf _ _⟩⟩⟩, conds_leaf _ _⟩⟩⟩
  · intro xs r h
    refine Eq.trans (Eq.symm ?_) h
    kernel_rfl
@[reducible] noncomputable def e_laws_eqConn : FnE := { f := 21, args := [tyConnx, tyConnx], res := [.bool], F := fun xs => laws_eqConn xs.1 xs.2.1 }
theorem ok_laws_eqConn : FnOK Tryz.prog glob e_laws_eqConn := by
  refine FnOK.of (e := e_laws_eqConn) (C := cfg [] [e_laws_eqConf, e_laws_eqStreamS, e_laws_eqCredit, e_laws_eqWindow, e_laws_eqCount, e_laws_eqAllow, e_laws_eqPacketS] [] [] []) (cfg_ok rfl (env_cons ok_laws_eqConf (env_cons ok_laws_eqStreamS (env_cons ok_laws_eqCredit (env_cons ok_laws_eqWindow (env_cons ok_laws_eqCount (env_cons ok_laws_eqAllow (env_cons ok_laws_eqPacketS env_nil))))))) envL_nil envB_nil envW_nil) rfl Tryz.func21 (c := codeOf Tryz.f21) rfl Tryz.call21 (by decide)
    (.leaf) ?_ ?_
  · exact conds_leaf _ _
  · intro xs r h
    refine Eq.trans (Eq.symm ?_) h
    kernel_rfl
@[reducible] noncomputable def e_laws_eqLetter : FnE := { f := 53, args := [tyLetter, tyLetter], res := [.bool], F := fun xs => laws_eqLetter xs.1 xs.2.1 }
theorem ok_laws_eqLetter : FnOK Tryz.prog glob e_laws_eqLetter := by
  refine FnOK.of (e := e_laws_eqLetter) (C := cfg [] [] [] [] []) (cfg_ok rfl env_nil envL_nil envB_nil envW_nil) rfl Tryz.func53 (c := codeOf Tryz.f53) rfl Tryz.call53 (by decide)
    (.leaf) ?_ ?_
  · exact conds_leaf _ _
  · intro xs r h
    refine Eq.trans (Eq.symm ?_) h
    kernel_rfl
@[reducible] noncomputable def e_laws_eqLetterS : FnE := { f := 22, args := [.slice 93 (tyLetter), .slice 93 (tyLetter)], res := [.bool], F := fun xs => laws_eqLetterS xs.1 xs.2.1 }
theorem ok_laws_eqLetterS : FnOK Tryz.prog glob e_laws_eqLetterS := by
  refine FnOK.of (e := e_laws_eqLetterS) (C := cfg [] [e_laws_eqLetter] [] [] []) (cfg_ok rfl (env_cons ok_laws_eqLetter env_nil) envL_nil envB_nil envW_nil) rfl Tryz.func22 (c := codeOf Tryz.f22) rfl Tryz.call22 (by decide)
    ((.seq .leaf (.seq .leaf (.seq (.seq .leaf (.block (.loop laws_eqLetterS_l1_p (fun N v => laws_eqLetterS_l1 N v.1 v.2.1 v.2.2.1) (fun v => laws_eqLetterS_l1_fuel v.1 v.2.1 v.2.2.1) (fun K1 => .leaf)))) .leaf)))) ?_ ?_
  · exact ⟨conds_leaf _ _, ⟨conds_leaf _ _, ⟨⟨conds_leaf _ _, ⟨fun _ => rfl, fun N => ⟨(fun v => by kernel_rfl), conds_leaf _ _⟩⟩⟩, conds_leaf _ _⟩⟩⟩
  · intro xs r h
    refine Eq.trans (Eq.symm ?_) h
    kernel_rfl
@[reducible] noncomputable def e_laws_eqTrack : FnE := { f := 54, args := [tyTrack, tyTrack], res := [.bool], F := fun xs => laws_eqTrack xs.1 xs.2.1 }
theorem ok_laws_eqTrack : FnOK Tryz.prog glob e_laws_eqTrack := by
  refine FnOK.of (e := e_laws_eqTrack) (C := cfg [] [] [] [] []) (cfg_ok rfl env_nil envL_nil envB_nil envW_nil) rfl Tryz.func54 (c := codeOf Tryz.f54) rfl Tryz.call54 (by decide)
    (.leaf) ?_ ?_
  · exact conds_leaf _ _
  · intro xs r h
    refine Eq.trans (Eq.symm ?_) h
    kernel_rfl
@[reducible] noncomputable def e_laws_eqTrackS : FnE := { f := 23, args := [.slice 67 (tyTrack), .slice 67 (tyTrack)], res := [.bool], F := fun xs => laws_eqTrackS xs.1 xs.2.1 }
theorem ok_laws_eqTrackS : FnOK Tryz.prog glob e_laws_eqTrackS := by
  refine FnOK.of (e := e_laws_eqTrackS) (C := cfg [] [e_laws_eqTrack] [] [] []) (cfg_ok rfl (env_cons ok_laws_eqTrack env_nil) envL_nil envB_nil envW_nil) rfl Tryz.func23 (c := codeOf Tryz.f23) rfl Tryz.call23 (by decide)
    ((.seq .leaf (.seq .leaf (.seq (.seq .leaf (.block (.loop laws_eqTrackS_l1_p (fun N v => laws_eqTrackS_l1 N v.1 v.2.1 v.2.2.1) (fun v => laws_eqTrackS_l1_fuel v.1 v.2.1 v.2.2.1) (fun K1 => .leaf)))) .leaf)))) ?_ ?_
  · exact ⟨conds_leaf _ _, ⟨conds_leaf _ _, ⟨⟨conds_leaf _ _, ⟨fun _ => rfl, fun N => ⟨(fun v => by kernel_rfl), conds_leaf _ _⟩⟩⟩, conds_leaf _ _⟩⟩⟩
  · intro xs r h
    refine Eq.trans (Eq.symm ?_) h
    kernel_rfl
@[reducible] noncomputable def e_laws_eqPair : FnE := { f := 9, args := [tyPairx, tyPairx], res := [.bool], F := fun xs => laws_eqPair xs.1 xs.2.1 }
theorem ok_laws_eqPair : FnOK Tryz.prog glob e_laws_eqPair := by
  refine FnOK.of (e := e_laws_eqPair) (C := cfg [] [e_laws_eqConn, e_laws_eqLetterS, e_laws_eqTrackS] [] [] []) (cfg_ok rfl (env_cons ok_laws_eqConn (env_cons ok_laws_eqLetterS (env_cons ok_laws_eqTrackS env_nil))) envL_nil envB_nil envW_nil) rfl Tryz.func9 (c := codeOf Tryz.f9) rfl Tryz.call9 (by decide)
    (.leaf) ?_ ?_
  · exact conds_leaf _ _
  · intro xs r h
    refine Eq.trans (Eq.symm ?_) h
    kernel_rfl
@[reducible] noncomputable def e_laws_markIntSW : FnW := { f := 65, args := [.slice 3 (.hid (.int .i64)), .int .i64], res := [.int .i64], F := fun xs => laws_markIntSW xs.1 xs.2.1 }
theorem ok_laws_markIntSW : FnWOK Tryz.prog e_laws_markIntSW := by
  refine FnWOK.of (e := e_laws_markIntSW) (C := cfgS [] []) (fun w0 L => cfgS_ok env_nil envW_nil) Tryz.func65 (c := codeOf Tryz.f65) rfl Tryz.call65 (by decide)
    ((.seq .leaf (.seq (.seq .leaf (.block (.loop laws_markIntSW_l1_p (fun N v => laws_markIntSW_l1 N v.1 v.2.1 v.2.2.1) (fun v => laws_markIntSW_l1_fuel v.1 v.2.1 v.2.2.1) (fun K1 => .leaf)))) .leaf))) ?_ ?_
  · exact ⟨conds_leaf _ _, ⟨⟨conds_leaf _ _, ⟨fun _ => rfl, fun N => ⟨(fun v => by kernel_rfl), conds_leaf _ _⟩⟩⟩, conds_leaf _ _⟩⟩
  · intro xs r h
    refine Eq.trans (Eq.symm ?_) h
    kernel_rfl
@[reducible] noncomputable def e_laws_markRangeSW : FnW := { f := 66, args := [.slice 165 (tyRangeH), .int .i64], res := [.int .i64], F := fun xs => laws_markRangeSW xs.1 xs.2.1 }
theorem ok_laws_markRangeSW : FnWOK Tryz.prog e_laws_markRangeSW := by
  refine FnWOK.of (e := e_laws_markRangeSW) (C := cfgS [] []) (fun w0 L => cfgS_ok env_nil envW_nil) Tryz.func66 (c := codeOf Tryz.f66) rfl Tryz.call66 (by decide)
    ((.seq .leaf (.seq (.seq .leaf (.block (.loop laws_markRangeSW_l1_p (fun N v => laws_markRangeSW_l1 N v.1 v.2.1 v.2.2.1) (fun v => laws_markRangeSW_l1_fuel v.1 v.2.1 v.2.2.1) (fun K1 => .leaf)))) .leaf))) ?_ ?_
  · exact ⟨conds_leaf _ _, ⟨⟨conds_leaf _ _, ⟨fun _ => rfl, fun N => ⟨(fun v => by kernel_rfl), conds_leaf _ _⟩⟩⟩, conds_leaf _ _⟩⟩
  · intro xs r h
    refine Eq.trans (Eq.symm ?_) h
    kernel_rfl
@[reducible] noncomputable def e_laws_markText : FnE := { f := 27, args := [.int .i64], res := [.str], F := fun xs => laws_markText xs.1 }
theorem okN_laws_markText : FnOK Tryz.prog Glob.none e_laws_markText := by
  refine FnOK.of (e := e_laws_markText) (C := cfg [] [] [] [] []) (cfg_ok rfl env_nil envL_nil envB_nil envW_nil) rfl Tryz.func27 (c := codeOf Tryz.f27) rfl Tryz.call27 (by decide)
    ((.seq .leaf (.seq .leaf (.seq .leaf (.seq (.block (.loop laws_markText_l1_p (fun N v => laws_markText_l1 N v.1 v.2.1) (fun v => laws_markText_l1_fuel v.1 v.2.1) (fun K1 => .leaf))) .leaf))))) ?_ ?_
  · exact ⟨conds_leaf _ _, ⟨conds_leaf _ _, ⟨conds_leaf _ _, ⟨⟨fun _ => rfl, fun N => ⟨(fun v => by kernel_rfl), conds_leaf _ _⟩⟩, conds_leaf _ _⟩⟩⟩⟩
  · intro xs r h
    refine Eq.trans (Eq.symm ?_) h
    kernel_rfl
theorem ok_laws_markText : FnOK Tryz.prog glob e_laws_markText := FnOK.any okN_laws_markText
@[reducible] noncomputable def e_laws_markChunkSW : FnW := { f := 67, args := [.slice 167 (tyLetterH), .int .i64], res := [.int .i64], F := fun xs => laws_markChunkSW xs.1 xs.2.1 }
theorem ok_laws_markChunkSW : FnWOK Tryz.prog e_laws_markChunkSW := by
  refine FnWOK.of (e := e_laws_markChunkSW) (C := cfgS [e_laws_markText] []) (fun w0 L => cfgS_ok (env_cons (FnOK.any okN_laws_markText) env_nil) envW_nil) Tryz.func67 (c := codeOf Tryz.f67) rfl Tryz.call67 (by decide)
    ((.seq .leaf (.seq (.seq .leaf (.block (.loop laws_markChunkSW_l1_p (fun N v => laws_markChunkSW_l1 N v.1 v.2.1 v.2.2.1) (fun v => laws_markChunkSW_l1_fuel v.1 v.2.1 v.2.2.1) (fun K1 => .leaf)))) .leaf))) ?_ ?_
  · exact ⟨conds_leaf _ _, ⟨⟨conds_leaf _ _, ⟨fun _ => rfl, fun N => ⟨(fun v => by kernel_rfl), conds_leaf _ _⟩⟩⟩, conds_leaf _ _⟩⟩
  · intro xs r h
    refine Eq.trans (Eq.symm ?_) h
    kernel_rfl
@[reducible] noncomputable def e_laws_markStreamSW : FnW := { f := 55, args := [.slice 141 (tyStreamxH), .int .i64], res := [.int .i64], F := fun xs => laws_markStreamSW xs.1 xs.2.1 }
theorem ok_laws_markStreamSW : FnWOK Tryz.prog e_laws_markStreamSW := by
  refine FnWOK.of (e := e_laws_markStreamSW) (C := cfgS [] [e_laws_markIntSW, e_laws_markRangeSW, e_laws_markChunkSW]) (fun w0 L => cfgS_ok env_nil (envW_cons ok_laws_markIntSW (envW_cons ok_laws_markRangeSW (envW_cons ok_laws_markChunkSW envW_nil)))) Tryz.func55 (c := codeOf Tryz.f55) rfl Tryz.call55 (by decide)
    ((.seq .leaf (.seq (.seq .leaf (.block (.loop laws_markStreamSW_l1_p (fun N v => laws_markStreamSW_l1 N v.1 v.2.1 v.2.2.1) (fun v => laws_markStreamSW_l1_fuel v.1 v.2.1 v.2.2.1) (fun K1 => .leaf)))) .leaf))) ?_ ?_
  · exact ⟨conds_leaf _ _, ⟨⟨conds_leaf _ _, ⟨fun _ => rfl, fun N => ⟨(fun v => by kernel_rfl), conds_leaf _ _⟩⟩⟩, conds_leaf _ _⟩⟩
  · intro xs r h
    refine Eq.trans (Eq.symm ?_) h
    kernel_rfl
@[reducible] noncomputable def e_laws_markFrameSW : FnW := { f := 68, args := [.slice 169 (tyFrameH), .int .i64], res := [.int .i64], F := fun xs => laws_markFrameSW xs.1 xs.2.1 }
theorem ok_laws_markFrameSW : FnWOK Tryz.prog e_laws_markFrameSW := by
  refine FnWOK.of (e := e_laws_markFrameSW) (C := cfgS [e_laws_markText] []) (fun w0 L => cfgS_ok (env_cons (FnOK.any okN_laws_markText) env_nil) envW_nil) Tryz.func68 (c := codeOf Tryz.f68) rfl Tryz.call68 (by decide)
    ((.seq .leaf (.seq (.seq .leaf (.block (.loop laws_markFrameSW_l1_p (fun N v => laws_markFrameSW_l1 N v.1 v.2.1 v.2.2.1) (fun v => laws_markFrameSW_l1_fuel v.1 v.2.1 v.2.2.1) (fun K1 => .leaf)))) .leaf))) ?_ ?_
  · exact ⟨conds_leaf _ _, ⟨⟨conds_leaf _ _, ⟨fun _ => rfl, fun N => ⟨(fun v => by kernel_rfl), conds_leaf _ _⟩⟩⟩, conds_leaf _ _⟩⟩
  · intro xs r h
    refine Eq.trans (Eq.symm ?_) h
    kernel_rfl
@[reducible] noncomputable def e_laws_markPacketSW : FnW := { f := 56, args := [.slice 145 (tyPacketxH), .int .i64], res := [.int .i64], F := fun xs => laws_markPacketSW xs.1 xs.2.1 }
theorem ok_laws_markPacketSW : FnWOK Tryz.prog e_laws_markPacketSW := by
  refine FnWOK.of (e := e_laws_markPacketSW) (C := cfgS [] [e_laws_markFrameSW]) (fun w0 L => cfgS_ok env_nil (envW_cons ok_laws_markFrameSW envW_nil)) Tryz.func56 (c := codeOf Tryz.f56) rfl Tryz.call56 (by decide)
    ((.seq .leaf (.seq (.seq .leaf (.block (.loop laws_markPacketSW_l1_p (fun N v => laws_markPacketSW_l1 N v.1 v.2.1 v.2.2.1) (fun v => laws_markPacketSW_l1_fuel v.1 v.2.1 v.2.2.1) (fun K1 => .leaf)))) .leaf))) ?_ ?_
  · exact ⟨conds_leaf _ _, ⟨⟨conds_leaf _ _, ⟨fun _ => rfl, fun N => ⟨(fun v => by kernel_rfl), conds_leaf _ _⟩⟩⟩, conds_leaf _ _⟩⟩
  · intro xs r h
    refine Eq.trans (Eq.symm ?_) h
    kernel_rfl
@[reducible] noncomputable def e_laws_markConnW : FnW := { f := 24, args := [tyConnxH, .int .i64], res := [.int .i64], F := fun xs => laws_markConnW xs.1 xs.2.1 }
theorem ok_laws_markConnW : FnWOK Tryz.prog e_laws_markConnW := by
  refine FnWOK.of (e := e_laws_markConnW) (C := cfgS [] [e_laws_markStreamSW, e_laws_markPacketSW]) (fun w0 L => cfgS_ok env_nil (envW_cons ok_laws_markStreamSW (envW_cons ok_laws_markPacketSW envW_nil))) Tryz.func24 (c := codeOf Tryz.f24) rfl Tryz.call24 (by decide)
    (.leaf) ?_ ?_
  · exact conds_leaf _ _
  · intro xs r h
    refine Eq.trans (Eq.symm ?_) h
    kernel_rfl
@[reducible] noncomputable def e_laws_markLetterSW : FnW := { f := 25, args := [.slice 93 (tyLetterH), .int .i64], res := [.int .i64], F := fun xs => laws_markLetterSW xs.1 xs.2.1 }
theorem ok_laws_markLetterSW : FnWOK Tryz.prog e_laws_markLetterSW := by
  refine FnWOK.of (e := e_laws_markLetterSW) (C := cfgS [e_laws_markText] []) (fun w0 L => cfgS_ok (env_cons (FnOK.any okN_laws_markText) env_nil) envW_nil) Tryz.func25 (c := codeOf Tryz.f25) rfl Tryz.call25 (by decide)
    ((.seq .leaf (.seq (.seq .leaf (.block (.loop laws_markLetterSW_l1_p (fun N v => laws_markLetterSW_l1 N v.1 v.2.1 v.2.2.1) (fun v => laws_markLetterSW_l1_fuel v.1 v.2.1 v.2.2.1) (fun K1 => .leaf)))) .leaf))) ?_ ?_
  · exact ⟨conds_leaf _ _, ⟨⟨conds_leaf _ _, ⟨fun _ => rfl, fun N => ⟨(fun v => by kernel_rfl), conds_leaf _ _⟩⟩⟩, conds_leaf _ _⟩⟩
  · intro xs r h
    refine Eq.trans (Eq.symm ?_) h
    kernel_rfl
@[reducible] noncomputable def e_laws_markTrackSW : FnW := { f := 26, args := [.slice 67 (tyTrackH), .int .i64], res := [.int .i64], F := fun xs => laws_markTrackSW xs.1 xs.2.1 }
theorem ok_laws_markTrackSW : FnWOK Tryz.prog e_laws_markTrackSW := by
  refine FnWOK.of (e := e_laws_markTrackSW) (C := cfgS [e_laws_markText] []) (fun w0 L => cfgS_ok (env_cons (FnOK.any okN_laws_markText) env_nil) envW_nil) Tryz.func26 (c := codeOf Tryz.f26) rfl Tryz.call26 (by decide)
    ((.seq .leaf (.seq (.seq .leaf (.block (.loop laws_markTrackSW_l1_p (fun N v => laws_markTrackSW_l1 N v.1 v.2.1 v.2.2.1) (fun v => laws_markTrackSW_l1_fuel v.1 v.2.1 v.2.2.1) (fun K1 => .leaf)))) .leaf))) ?_ ?_
  · exact ⟨conds_leaf _ _, ⟨⟨conds_leaf _ _, ⟨fun _ => rfl, fun N => ⟨(fun v => by kernel_rfl), conds_leaf _ _⟩⟩⟩, conds_leaf _ _⟩⟩
  · intro xs r h
    refine Eq.trans (Eq.symm ?_) h
    kernel_rfl
@[reducible] noncomputable def e_laws_markPairW : FnW := { f := 10, args := [tyPairxH, .int .i64], res := [.int .i64], F := fun xs => laws_markPairW xs.1 xs.2.1 }
theorem ok_laws_markPairW : FnWOK Tryz.prog e_laws_markPairW := by
  refine FnWOK.of (e := e_laws_markPairW) (C := cfgS [] [e_laws_markConnW, e_laws_markLetterSW, e_laws_markTrackSW]) (fun w0 L => cfgS_ok env_nil (envW_cons ok_laws_markConnW (envW_cons ok_laws_markLetterSW (envW_cons ok_laws_markTrackSW envW_nil)))) Tryz.func10 (c := codeOf Tryz.f10) rfl Tryz.call10 (by decide)
    (.leaf) ?_ ?_
  · exact conds_leaf _ _
  · intro xs r h
    refine Eq.trans (Eq.symm ?_) h
    kernel_rfl
@[reducible] noncomputable def e_laws_markStringS : FnL := { f := 11, e := 9, t := .str, args := [.int .i64], res := [.int .i64], F := fun l xs => laws_markStringS l xs.1 }
theorem ok_laws_markStringS : FnLOK Tryz.prog glob e_laws_markStringS := by
  refine FnLOK.of (e := e_laws_markStringS) (C := cfg [0] [e_laws_markText] [] [] []) (cfg_ok rfl (env_cons ok_laws_markText env_nil) envL_nil envB_nil envW_nil) rfl rfl rfl rfl Tryz.func11 (c := codeOf Tryz.f11) rfl Tryz.call11 (by decide)
    ((.seq .leaf (.seq (.seq .leaf (.block (.loop laws_markStringS_l1_p (fun N v => laws_markStringS_l1 N v.1 v.2.1 v.2.2.1) (fun v => laws_markStringS_l1_fuel v.1 v.2.1 v.2.2.1) (fun K1 => .leaf)))) .leaf))) ?_ ?_
  · exact ⟨conds_leaf _ _, ⟨⟨conds_leaf _ _, ⟨fun _ => rfl, fun N => ⟨(fun v => by kernel_rfl), conds_leaf _ _⟩⟩⟩, conds_leaf _ _⟩⟩
  · intro l xs r h
    refine Eq.trans (Eq.symm ?_) h
    kernel_rfl
@[reducible] noncomputable def e_laws_heldStringS : FnE := { f := 12, args := [.slice 9 (.str), .int .i64], res := [.int .i64], F := fun xs => laws_heldStringS xs.1 xs.2.1 }
theorem ok_laws_heldStringS : FnOK Tryz.prog glob e_laws_heldStringS := by
  refine FnOK.of (e := e_laws_heldStringS) (C := cfg [] [e_laws_markText] [] [] []) (cfg_ok rfl (env_cons ok_laws_markText env_nil) envL_nil envB_nil envW_nil) rfl Tryz.func12 (c := codeOf Tryz.f12) rfl Tryz.call12 (by decide)
    ((.seq .leaf (.seq (.seq .leaf (.block (.loop laws_heldStringS_l1_p (fun N v => laws_heldStringS_l1 N v.1 v.2.1 v.2.2.1) (fun v => laws_heldStringS_l1_fuel v.1 v.2.1 v.2.2.1) (fun K1 => .leaf)))) .leaf))) ?_ ?_
  · exact ⟨conds_leaf _ _, ⟨⟨conds_leaf _ _, ⟨fun _ => rfl, fun N => ⟨(fun v => by kernel_rfl), conds_leaf _ _⟩⟩⟩, conds_leaf _ _⟩⟩
  · intro xs r h
    refine Eq.trans (Eq.symm ?_) h
    kernel_rfl
@[reducible] noncomputable def e_laws_FnExactTrackLines : FnE := { f := 3, args := [tyPair], res := [.bool], F := fun xs => laws_FnExactTrackLines xs.1 }
theorem ok_laws_FnExactTrackLines : FnOK Tryz.prog glob e_laws_FnExactTrackLines := by
  refine FnOK.of (e := e_laws_FnExactTrackLines) (C := cfg [] [e_laws_szPair, e_laws_toPair, e_spec_TrackLines, e_impl_TrackLines, e_laws_eqStringS, e_laws_eqPair, e_laws_heldStringS] [e_laws_markStringS] [] [e_laws_markPairW]) (cfg_ok rfl (env_cons ok_laws_szPair (env_cons ok_laws_toPair (env_cons ok_spec_TrackLines (env_cons ok_impl_TrackLines (env_cons ok_laws_eqStringS (env_cons ok_laws_eqPair (env_cons ok_laws_heldStringS env_nil))))))) (envL_cons ok_laws_markStringS envL_nil) envB_nil (envW_cons ok_laws_markPairW envW_nil)) rfl Tryz.func3 (c := codeOf Tryz.f3) rfl Tryz.call3 (by decide)
    (.leaf) ?_ ?_
  · exact conds_leaf _ _
  · intro xs r h
    refine Eq.trans (Eq.symm ?_) h
    kernel_rfl
end Go.Proofs.YtdhcpaebmpmihaaGreatDoor

/- FnExactIsUrgentFirst: what the functions that it reaches compute, as plain functions, and that they do so. No condition. -/
import Derived.Test.YtgdhcchnhjlenaaRows
import Derived.Test.YtgdhcchnhjlenaaAm4
namespace Go.Proofs.Ytgdhcchnhjlenaa
open Go.Am
set_option maxRecDepth 100000
set_option linter.unusedVariables false

@[reducible] def tyPriority : Ty := .pair (.int .i64) (.pair (.bool) (.unit))
@[reducible] def TPriority : Type := Int × Bool × Unit
def zPriority : TPriority := ((0 : Int), (false, ()))
@[reducible] def tyChunk : Ty := .pair (.int .i64) (.pair (.str) (.unit))
@[reducible] def TChunk : Type := Int × List UInt8 × Unit
def zChunk : TChunk := ((0 : Int), (([] : List UInt8), ()))
@[reducible] def tyRange : Ty := .pair (.int .i64) (.pair (.int .i64) (.unit))
@[reducible] def TRange : Type := Int × Int × Unit
def zRange : TRange := ((0 : Int), ((0 : Int), ()))
@[reducible] def tyCount : Ty := .pair (.int .i64) (tyRange)
@[reducible] def TCount : Type := Int × TRange
def zCount : TCount := ((0 : Int), ((0 : Int), ((0 : Int), ())))
@[reducible] def tyAllow : Ty := .pair (.int .i64) (tyCount)
@[reducible] def TAllow : Type := Int × TCount
def zAllow : TAllow := ((0 : Int), ((0 : Int), ((0 : Int), ((0 : Int), ()))))
@[reducible] def tyBuffer : Ty := .pair (.int .i64) (.pair (.slice 156 (tyChunk)) (.unit))
@[reducible] def TBuffer : Type := Int × List TChunk × Unit
def zBuffer : TBuffer := ((0 : Int), (([] : List TChunk), ()))
@[reducible] def tyRing : Ty := .pair (.int .i64) (.pair (.int .i64) (.pair (.int .i64) (.pair (.slice 3 (.int .i64)) (.unit))))
@[reducible] def TRing : Type := Int × Int × Int × List Int × Unit
def zRing : TRing := ((0 : Int), ((0 : Int), ((0 : Int), (([] : List Int), ()))))
@[reducible] def tyBufferx : Ty := .pair (.int .i64) (.pair (.slice 157 (tyChunk)) (.unit))
@[reducible] def TBufferx : Type := Int × List TChunk × Unit
def zBufferx : TBufferx := ((0 : Int), (([] : List TChunk), ()))
@[reducible] def tyWindow : Ty := .pair (.int .i64) (.pair (.int .i64) (tyAllow))
@[reducible] def TWindow : Type := Int × Int × TAllow
def zWindow : TWindow := ((0 : Int), ((0 : Int), ((0 : Int), ((0 : Int), ((0 : Int), ((0 : Int), ()))))))
@[reducible] def tyConf : Ty := .pair (.int .i64) (.pair (.int .i64) (tyWindow))
@[reducible] def TConf : Type := Int × Int × TWindow
def zConf : TConf := ((0 : Int), ((0 : Int), ((0 : Int), ((0 : Int), ((0 : Int), ((0 : Int), ((0 : Int), ((0 : Int), ()))))))))
@[reducible] def tyFrame : Ty := .pair (.int .i64) (.pair (.int .i64) (.pair (.int .i64) (.pair (.str) (.pair (.bool) (.pair (.int .i64) (.pair (.int .i64) (tyPriority)))))))
@[reducible] def TFrame : Type := Int × Int × Int × List UInt8 × Bool × Int × Int × TPriority
def zFrame : TFrame := ((0 : Int), ((0 : Int), ((0 : Int), (([] : List UInt8), (false, ((0 : Int), ((0 : Int), ((0 : Int), (false, ())))))))))
@[reducible] def tyReceiver : Ty := .pair (.int .i64) (.pair (tyBuffer) (tyCount))
@[reducible] def TReceiver : Type := Int × TBuffer × TCount
def zReceiver : TReceiver := ((0 : Int), (((0 : Int), (([] : List TChunk), ())), ((0 : Int), ((0 : Int), ((0 : Int), ())))))
@[reducible] def tyReceiverx : Ty := .pair (.int .i64) (.pair (tyBufferx) (tyCount))
@[reducible] def TReceiverx : Type := Int × TBufferx × TCount
def zReceiverx : TReceiverx := ((0 : Int), (((0 : Int), (([] : List TChunk), ())), ((0 : Int), ((0 : Int), ((0 : Int), ())))))
@[reducible] def tyPacket : Ty := .pair (.int .i64) (.pair (.slice 59 (tyFrame)) (.unit))
@[reducible] def TPacket : Type := Int × List TFrame × Unit
def zPacket : TPacket := ((0 : Int), (([] : List TFrame), ()))
@[reducible] def tyPacketx : Ty := .pair (.int .i64) (.pair (.slice 60 (tyFrame)) (.unit))
@[reducible] def TPacketx : Type := Int × List TFrame × Unit
def zPacketx : TPacketx := ((0 : Int), (([] : List TFrame), ()))
@[reducible] def tySender : Ty := .pair (.int .i64) (.pair (tyRing) (.pair (.slice 149 (tyRange)) (.pair (.slice 149 (tyRange)) (.pair (.slice 149 (tyRange)) (tyAllow)))))
@[reducible] def TSender : Type := Int × TRing × List TRange × List TRange × List TRange × TAllow
def zSender : TSender := ((0 : Int), (((0 : Int), ((0 : Int), ((0 : Int), (([] : List Int), ())))), (([] : List TRange), (([] : List TRange), (([] : List TRange), ((0 : Int), ((0 : Int), ((0 : Int), ((0 : Int), ())))))))))
@[reducible] def tySenderx : Ty := .pair (.int .i64) (.pair (tyRing) (.pair (.slice 147 (tyRange)) (.pair (.slice 147 (tyRange)) (.pair (.slice 147 (tyRange)) (tyAllow)))))
@[reducible] def TSenderx : Type := Int × TRing × List TRange × List TRange × List TRange × TAllow
def zSenderx : TSenderx := ((0 : Int), (((0 : Int), ((0 : Int), ((0 : Int), (([] : List Int), ())))), (([] : List TRange), (([] : List TRange), (([] : List TRange), ((0 : Int), ((0 : Int), ((0 : Int), ((0 : Int), ())))))))))
@[reducible] def tyStream : Ty := .pair (.int .i64) (.pair (tySender) (.pair (tyAllow) (.pair (tyReceiver) (.pair (tyWindow) (.pair (tyPriority) (.pair (.bool) (.pair (.bool) (.pair (.bool) (.pair (.bool) (.pair (.bool) (.pair (.bool) (tyPriority))))))))))))
@[reducible] def TStream : Type := Int × TSender × TAllow × TReceiver × TWindow × TPriority × Bool × Bool × Bool × Bool × Bool × Bool × TPriority
def zStream : TStream := ((0 : Int), (((0 : Int), (((0 : Int), ((0 : Int), ((0 : Int), (([] : List Int), ())))), (([] : List TRange), (([] : List TRange), (([] : List TRange), ((0 : Int), ((0 : Int), ((0 : Int), ((0 : Int), ()))))))))), (((0 : Int), ((0 : Int), ((0 : Int), ((0 : Int), ())))), (((0 : Int), (((0 : Int), (([] : List TChunk), ())), ((0 : Int), ((0 : Int), ((0 : Int), ()))))), (((0 : Int), ((0 : Int), ((0 : Int), ((0 : Int), ((0 : Int), ((0 : Int), ())))))), (((0 : Int), (false, ())), (false, (false, (false, (false, (false, (false, ((0 : Int), (false, ()))))))))))))))
@[reducible] def tyStreamx : Ty := .pair (.int .i64) (.pair (tySenderx) (.pair (tyAllow) (.pair (tyReceiverx) (.pair (tyWindow) (.pair (tyPriority) (.pair (.bool) (.pair (.bool) (.pair (.bool) (.pair (.bool) (.pair (.bool) (.pair (.bool) (tyPriority))))))))))))
@[reducible] def TStreamx : Type := Int × TSenderx × TAllow × TReceiverx × TWindow × TPriority × Bool × Bool × Bool × Bool × Bool × Bool × TPriority
def zStreamx : TStreamx := ((0 : Int), (((0 : Int), (((0 : Int), ((0 : Int), ((0 : Int), (([] : List Int), ())))), (([] : List TRange), (([] : List TRange), (([] : List TRange), ((0 : Int), ((0 : Int), ((0 : Int), ((0 : Int), ()))))))))), (((0 : Int), ((0 : Int), ((0 : Int), ((0 : Int), ())))), (((0 : Int), (((0 : Int), (([] : List TChunk), ())), ((0 : Int), ((0 : Int), ((0 : Int), ()))))), (((0 : Int), ((0 : Int), ((0 : Int), ((0 : Int), ((0 : Int), ((0 : Int), ())))))), (((0 : Int), (false, ())), (false, (false, (false, (false, (false, (false, ((0 : Int), (false, ()))))))))))))))
@[reducible] def tyConn : Ty := .pair (.bool) (.pair (tyConf) (.pair (tyConf) (.pair (.slice 107 (tyStream)) (.pair (tyAllow) (.pair (tyWindow) (.pair (tyCount) (.pair (tyCount) (.pair (tyAllow) (.pair (tyAllow) (.pair (.bool) (.pair (.bool) (.pair (.bool) (.pair (.int .i64) (.pair (.int .i64) (.pair (.slice 110 (tyPacket)) (tyRange))))))))))))))))
@[reducible] def TConn : Type := Bool × TConf × TConf × List TStream × TAllow × TWindow × TCount × TCount × TAllow × TAllow × Bool × Bool × Bool × Int × Int × List TPacket × TRange
def zConn : TConn := (false, (((0 : Int), ((0 : Int), ((0 : Int), ((0 : Int), ((0 : Int), ((0 : Int), ((0 : Int), ((0 : Int), ())))))))), (((0 : Int), ((0 : Int), ((0 : Int), ((0 : Int), ((0 : Int), ((0 : Int), ((0 : Int), ((0 : Int), ())))))))), (([] : List TStream), (((0 : Int), ((0 : Int), ((0 : Int), ((0 : Int), ())))), (((0 : Int), ((0 : Int), ((0 : Int), ((0 : Int), ((0 : Int), ((0 : Int), ())))))), (((0 : Int), ((0 : Int), ((0 : Int), ()))), (((0 : Int), ((0 : Int), ((0 : Int), ()))), (((0 : Int), ((0 : Int), ((0 : Int), ((0 : Int), ())))), (((0 : Int), ((0 : Int), ((0 : Int), ((0 : Int), ())))), (false, (false, (false, ((0 : Int), ((0 : Int), (([] : List TPacket), ((0 : Int), ((0 : Int), ()))))))))))))))))))
@[reducible] def tyConnx : Ty := .pair (.bool) (.pair (tyConf) (.pair (tyConf) (.pair (.slice 75 (tyStreamx)) (.pair (tyAllow) (.pair (tyWindow) (.pair (tyCount) (.pair (tyCount) (.pair (tyAllow) (.pair (tyAllow) (.pair (.bool) (.pair (.bool) (.pair (.bool) (.pair (.int .i64) (.pair (.int .i64) (.pair (.slice 115 (tyPacketx)) (tyRange))))))))))))))))
@[reducible] def TConnx : Type := Bool × TConf × TConf × List TStreamx × TAllow × TWindow × TCount × TCount × TAllow × TAllow × Bool × Bool × Bool × Int × Int × List TPacketx × TRange
def zConnx : TConnx := (false, (((0 : Int), ((0 : Int), ((0 : Int), ((0 : Int), ((0 : Int), ((0 : Int), ((0 : Int), ((0 : Int), ())))))))), (((0 : Int), ((0 : Int), ((0 : Int), ((0 : Int), ((0 : Int), ((0 : Int), ((0 : Int), ((0 : Int), ())))))))), (([] : List TStreamx), (((0 : Int), ((0 : Int), ((0 : Int), ((0 : Int), ())))), (((0 : Int), ((0 : Int), ((0 : Int), ((0 : Int), ((0 : Int), ((0 : Int), ())))))), (((0 : Int), ((0 : Int), ((0 : Int), ()))), (((0 : Int), ((0 : Int), ((0 : Int), ()))), (((0 : Int), ((0 : Int), ((0 : Int), ((0 : Int), ())))), (((0 : Int), ((0 : Int), ((0 : Int), ((0 : Int), ())))), (false, (false, (false, ((0 : Int), ((0 : Int), (([] : List TPacketx), ((0 : Int), ((0 : Int), ()))))))))))))))))))
noncomputable def laws_szIntS (a0 : List Int) (left1 : Int) : Option (Int × Unit) :=
  let t8 : Int := IntKind.i64.wrap (left1 - (a0.length : Int))
  bif decide (t8 < (0 : Int)) then
    some ((-1 : Int), ())
  else
    some (t8, ())
noncomputable def laws_szRing (a0 : TRing) (left1 : Int) : Option (Int × Unit) :=
  Option.bind (laws_szIntS a0.2.2.2.1 left1) fun t8 =>
  bif decide (t8.1 < (0 : Int)) then
    some ((-1 : Int), ())
  else
    some (t8.1, ())
noncomputable def laws_szRangeS (a0 : List TRange) (left1 : Int) : Option (Int × Unit) :=
  let t8 : Int := IntKind.i64.wrap (left1 - (a0.length : Int))
  bif decide (t8 < (0 : Int)) then
    some ((-1 : Int), ())
  else
    some (t8, ())
noncomputable def laws_szSender (a0 : TSender) (left1 : Int) : Option (Int × Unit) :=
  Option.bind (laws_szRing a0.2.1 left1) fun t8 =>
  bif decide (t8.1 < (0 : Int)) then
    some ((-1 : Int), ())
  else
    Option.bind (laws_szRangeS a0.2.2.1 t8.1) fun t14 =>
    bif decide (t14.1 < (0 : Int)) then
      some ((-1 : Int), ())
    else
      Option.bind (laws_szRangeS a0.2.2.2.1 t14.1) fun t20 =>
      bif decide (t20.1 < (0 : Int)) then
        some ((-1 : Int), ())
      else
        Option.bind (laws_szRangeS a0.2.2.2.2.1 t20.1) fun t26 =>
        bif decide (t26.1 < (0 : Int)) then
          some ((-1 : Int), ())
        else
          some (t26.1, ())
noncomputable def laws_szChunk (a0 : TChunk) (left1 : Int) : Option (Int × Unit) :=
  let t9 : Int := IntKind.i64.wrap (left1 - (a0.2.1.length : Int))
  bif decide (t9 < (0 : Int)) then
    some ((-1 : Int), ())
  else
    some (t9, ())
@[reducible] def laws_szChunkS_l1_p : List PE := [.val 0 (.slice 156 (tyChunk)) (.u false), .val 1 (.int .i64) (.u false), .val 5 (.int .i64) (.u false)]
def laws_szChunkS_l1_fuel (a0_1 : List TChunk) (left1_1 : Int) (i5 : Int) : Nat := ((a0_1.length : Int) - i5).toNat + 1
noncomputable def laws_szChunkS_l1 : Nat → List TChunk → Int → Int → Option (Int × Unit)
  | 0, _, _, _ => none
  | N + 1, a0_1, left1_1, i5 =>
    bif decide (i5 < (a0_1.length : Int)) then
      guardP (0 ≤ i5 ∧ i5 < a0_1.length) <|
      Option.bind (laws_szChunk (a0_1.getD i5.toNat zChunk) left1_1) fun t23 =>
      bif decide (t23.1 < (0 : Int)) then
        some ((-1 : Int), ())
      else
        laws_szChunkS_l1 N a0_1 t23.1 (IntKind.i64.wrap (i5 + (1 : Int)))
    else
      some (left1_1, ())
noncomputable def laws_szChunkS (a0 : List TChunk) (left1 : Int) : Option (Int × Unit) :=
  let t9 : Int := IntKind.i64.wrap (left1 - (a0.length : Int))
  bif decide (t9 < (0 : Int)) then
    some ((-1 : Int), ())
  else
    laws_szChunkS_l1 (laws_szChunkS_l1_fuel a0 t9 (0 : Int)) a0 t9 (0 : Int)
noncomputable def laws_szBuffer (a0 : TBuffer) (left1 : Int) : Option (Int × Unit) :=
  Option.bind (laws_szChunkS a0.2.1 left1) fun t8 =>
  bif decide (t8.1 < (0 : Int)) then
    some ((-1 : Int), ())
  else
    some (t8.1, ())
noncomputable def laws_szReceiver (a0 : TReceiver) (left1 : Int) : Option (Int × Unit) :=
  Option.bind (laws_szBuffer a0.2.1 left1) fun t8 =>
  bif decide (t8.1 < (0 : Int)) then
    some ((-1 : Int), ())
  else
    some (t8.1, ())
noncomputable def laws_szStream (a0 : TStream) (left1 : Int) : Option (Int × Unit) :=
  Option.bind (laws_szSender a0.2.1 left1) fun t8 =>
  bif decide (t8.1 < (0 : Int)) then
    some ((-1 : Int), ())
  else
    Option.bind (laws_szReceiver a0.2.2.2.1 t8.1) fun t14 =>
    bif decide (t14.1 < (0 : Int)) then
      some ((-1 : Int), ())
    else
      some (t14.1, ())
@[reducible] def laws_szStreamS_l1_p : List PE := [.val 0 (.slice 107 (tyStream)) (.u false), .val 1 (.int .i64) (.u false), .val 5 (.int .i64) (.u false)]
def laws_szStreamS_l1_fuel (a0_1 : List TStream) (left1_1 : Int) (i5 : Int) : Nat := ((a0_1.length : Int) - i5).toNat + 1
noncomputable def laws_szStreamS_l1 : Nat → List TStream → Int → Int → Option (Int × Unit)
  | 0, _, _, _ => none
  | N + 1, a0_1, left1_1, i5 =>
    bif decide (i5 < (a0_1.length : Int)) then
      guardP (0 ≤ i5 ∧ i5 < a0_1.length) <|
      Option.bind (laws_szStream (a0_1.getD i5.toNat zStream) left1_1) fun t23 =>
      bif decide (t23.1 < (0 : Int)) then
        some ((-1 : Int), ())
      else
        laws_szStreamS_l1 N a0_1 t23.1 (IntKind.i64.wrap (i5 + (1 : Int)))
    else
      some (left1_1, ())
noncomputable def laws_szStreamS (a0 : List TStream) (left1 : Int) : Option (Int × Unit) :=
  let t9 : Int := IntKind.i64.wrap (left1 - (a0.length : Int))
  bif decide (t9 < (0 : Int)) then
    some ((-1 : Int), ())
  else
    laws_szStreamS_l1 (laws_szStreamS_l1_fuel a0 t9 (0 : Int)) a0 t9 (0 : Int)
noncomputable def laws_szFrame (a0 : TFrame) (left1 : Int) : Option (Int × Unit) :=
  let t9 : Int := IntKind.i64.wrap (left1 - (a0.2.2.2.1.length : Int))
  bif decide (t9 < (0 : Int)) then
    some ((-1 : Int), ())
  else
    some (t9, ())
@[reducible] def laws_szFrameS_l1_p : List PE := [.val 0 (.slice 59 (tyFrame)) (.u false), .val 1 (.int .i64) (.u false), .val 5 (.int .i64) (.u false)]
def laws_szFrameS_l1_fuel (a0_1 : List TFrame) (left1_1 : Int) (i5 : Int) : Nat := ((a0_1.length : Int) - i5).toNat + 1
noncomputable def laws_szFrameS_l1 : Nat → List TFrame → Int → Int → Option (Int × Unit)
  | 0, _, _, _ => none
  | N + 1, a0_1, left1_1, i5 =>
    bif decide (i5 < (a0_1.length : Int)) then
      guardP (0 ≤ i5 ∧ i5 < a0_1.length) <|
      Option.bind (laws_szFrame (a0_1.getD i5.toNat zFrame) left1_1) fun t23 =>
      bif decide (t23.1 < (0 : Int)) then
        some ((-1 : Int), ())
      else
        laws_szFrameS_l1 N a0_1 t23.1 (IntKind.i64.wrap (i5 + (1 : Int)))
    else
      some (left1_1, ())
noncomputable def laws_szFrameS (a0 : List TFrame) (left1 : Int) : Option (Int × Unit) :=
  let t9 : Int := IntKind.i64.wrap (left1 - (a0.length : Int))
  bif decide (t9 < (0 : Int)) then
    some ((-1 : Int), ())
  else
    laws_szFrameS_l1 (laws_szFrameS_l1_fuel a0 t9 (0 : Int)) a0 t9 (0 : Int)
noncomputable def laws_szPacket (a0 : TPacket) (left1 : Int) : Option (Int × Unit) :=
  Option.bind (laws_szFrameS a0.2.1 left1) fun t8 =>
  bif decide (t8.1 < (0 : Int)) then
    some ((-1 : Int), ())
  else
    some (t8.1, ())
@[reducible] def laws_szPacketS_l1_p : List PE := [.val 0 (.slice 110 (tyPacket)) (.u false), .val 1 (.int .i64) (.u false), .val 5 (.int .i64) (.u false)]
def laws_szPacketS_l1_fuel (a0_1 : List TPacket) (left1_1 : Int) (i5 : Int) : Nat := ((a0_1.length : Int) - i5).toNat + 1
noncomputable def laws_szPacketS_l1 : Nat → List TPacket → Int → Int → Option (Int × Unit)
  | 0, _, _, _ => none
  | N + 1, a0_1, left1_1, i5 =>
    bif decide (i5 < (a0_1.length : Int)) then
      guardP (0 ≤ i5 ∧ i5 < a0_1.length) <|
      Option.bind (laws_szPacket (a0_1.getD i5.toNat zPacket) left1_1) fun t23 =>
      bif decide (t23.1 < (0 : Int)) then
        some ((-1 : Int), ())
      else
        laws_szPacketS_l1 N a0_1 t23.1 (IntKind.i64.wrap (i5 + (1 : Int)))
    else
      some (left1_1, ())
noncomputable def laws_szPacketS (a0 : List TPacket) (left1 : Int) : Option (Int × Unit) :=
  let t9 : Int := IntKind.i64.wrap (left1 - (a0.length : Int))
  bif decide (t9 < (0 : Int)) then
    some ((-1 : Int), ())
  else
    laws_szPacketS_l1 (laws_szPacketS_l1_fuel a0 t9 (0 : Int)) a0 t9 (0 : Int)
noncomputable def laws_szConn (a0 : TConn) (left1 : Int) : Option (Int × Unit) :=
  Option.bind (laws_szStreamS a0.2.2.2.1 left1) fun t8 =>
  bif decide (t8.1 < (0 : Int)) then
    some ((-1 : Int), ())
  else
    Option.bind (laws_szPacketS a0.2.2.2.2.2.2.2.2.2.2.2.2.2.2.2.1 t8.1) fun t14 =>
    bif decide (t14.1 < (0 : Int)) then
      some ((-1 : Int), ())
    else
      some (t14.1, ())
noncomputable def laws_toConf (a0 : TConf) : Option (TConf × Unit) :=
  some ((a0.1, (a0.2.1, (a0.2.2.1, (a0.2.2.2.1, (a0.2.2.2.2.1, (a0.2.2.2.2.2.1, (a0.2.2.2.2.2.2.1, (a0.2.2.2.2.2.2.2.1, ())))))))), ())
@[reducible] def laws_toIntS_l1_p : List PE := [.val 0 (.slice 3 (.int .i64)) (.u false), .val 3 (.slice 3 (.int .i64)) (.u true), .val 4 (.int .i64) (.u false)]
def laws_toIntS_l1_fuel (a0_1 : List Int) (out3 : List Int) (i4 : Int) : Nat := ((a0_1.length : Int) - i4).toNat + 1
noncomputable def laws_toIntS_l1 : Nat → List Int → List Int → Int → Option (List Int × Unit)
  | 0, _, _, _ => none
  | N + 1, a0_1, out3, i4 =>
    bif decide (i4 < (a0_1.length : Int)) then
      guardP (0 ≤ i4 ∧ i4 < a0_1.length) <|
      guardP (0 ≤ i4 ∧ i4 < out3.length) <|
      laws_toIntS_l1 N a0_1 (out3.set i4.toNat (a0_1.getD i4.toNat (0 : Int))) (IntKind.i64.wrap (i4 + (1 : Int)))
    else
      some (out3, ())
noncomputable def laws_toIntS (a0 : List Int) : Option (List Int × Unit) :=
  guardP (0 ≤ (a0.length : Int) ∧ (a0.length : Int) ≤ (a0.length : Int) ∧ (a0.length : Int) ≤ capN) <|
  let t7 : List Int := List.replicate (a0.length : Int).toNat (0 : Int)
  laws_toIntS_l1 (laws_toIntS_l1_fuel a0 t7 (0 : Int)) a0 t7 (0 : Int)
noncomputable def laws_toRing (a0 : TRing) : Option (TRing × Unit) :=
  Option.bind (laws_toIntS a0.2.2.2.1) fun t15 =>
  some ((a0.1, (a0.2.1, (a0.2.2.1, (t15.1, ())))), ())
noncomputable def laws_toRange (a0 : TRange) : Option (TRange × Unit) :=
  some ((a0.1, (a0.2.1, ())), ())
@[reducible] def laws_toRangeS_l1_p : List PE := [.val 0 (.slice 149 (tyRange)) (.u false), .val 3 (.slice 147 (tyRange)) (.u true), .val 4 (.int .i64) (.u false)]
def laws_toRangeS_l1_fuel (a0_1 : List TRange) (out3 : List TRange) (i4 : Int) : Nat := ((a0_1.length : Int) - i4).toNat + 1
noncomputable def laws_toRangeS_l1 : Nat → List TRange → List TRange → Int → Option (List TRange × Unit)
  | 0, _, _, _ => none
  | N + 1, a0_1, out3, i4 =>
    bif decide (i4 < (a0_1.length : Int)) then
      guardP (0 ≤ i4 ∧ i4 < a0_1.length) <|
      Option.bind (laws_toRange (a0_1.getD i4.toNat zRange)) fun t20 =>
      guardP (0 ≤ i4 ∧ i4 < out3.length) <|
      laws_toRangeS_l1 N a0_1 (out3.set i4.toNat t20.1) (IntKind.i64.wrap (i4 + (1 : Int)))
    else
      some (out3, ())
noncomputable def laws_toRangeS (a0 : List TRange) : Option (List TRange × Unit) :=
  guardP (0 ≤ (a0.length : Int) ∧ (a0.length : Int) ≤ (a0.length : Int) ∧ (a0.length : Int) ≤ capN) <|
  let t7 : List TRange := List.replicate (a0.length : Int).toNat zRange
  laws_toRangeS_l1 (laws_toRangeS_l1_fuel a0 t7 (0 : Int)) a0 t7 (0 : Int)
noncomputable def laws_toSender (a0 : TSender) : Option (TSenderx × Unit) :=
  Option.bind (laws_toRing a0.2.1) fun t9 =>
  Option.bind (laws_toRangeS a0.2.2.1) fun t13 =>
  Option.bind (laws_toRangeS a0.2.2.2.1) fun t17 =>
  Option.bind (laws_toRangeS a0.2.2.2.2.1) fun t21 =>
  some ((a0.1, (t9.1, (t13.1, (t17.1, (t21.1, (a0.2.2.2.2.2.1, (a0.2.2.2.2.2.2.1, (a0.2.2.2.2.2.2.2.1, (a0.2.2.2.2.2.2.2.2.1, ()))))))))), ())
noncomputable def laws_toCredit (a0 : TAllow) : Option (TAllow × Unit) :=
  some ((a0.1, (a0.2.1, (a0.2.2.1, (a0.2.2.2.1, ())))), ())
noncomputable def laws_toChunk (a0 : TChunk) : Option (TChunk × Unit) :=
  some ((a0.1, (a0.2.1, ())), ())
@[reducible] def laws_toChunkS_l1_p : List PE := [.val 0 (.slice 156 (tyChunk)) (.u false), .val 3 (.slice 157 (tyChunk)) (.u true), .val 4 (.int .i64) (.u false)]
def laws_toChunkS_l1_fuel (a0_1 : List TChunk) (out3 : List TChunk) (i4 : Int) : Nat := ((a0_1.length : Int) - i4).toNat + 1
noncomputable def laws_toChunkS_l1 : Nat → List TChunk → List TChunk → Int → Option (List TChunk × Unit)
  | 0, _, _, _ => none
  | N + 1, a0_1, out3, i4 =>
    bif decide (i4 < (a0_1.length : Int)) then
      guardP (0 ≤ i4 ∧ i4 < a0_1.length) <|
      Option.bind (laws_toChunk (a0_1.getD i4.toNat zChunk)) fun t20 =>
      guardP (0 ≤ i4 ∧ i4 < out3.length) <|
      laws_toChunkS_l1 N a0_1 (out3.set i4.toNat t20.1) (IntKind.i64.wrap (i4 + (1 : Int)))
    else
      some (out3, ())
noncomputable def laws_toChunkS (a0 : List TChunk) : Option (List TChunk × Unit) :=
  guardP (0 ≤ (a0.length : Int) ∧ (a0.length : Int) ≤ (a0.length : Int) ∧ (a0.length : Int) ≤ capN) <|
  let t7 : List TChunk := List.replicate (a0.length : Int).toNat zChunk
  laws_toChunkS_l1 (laws_toChunkS_l1_fuel a0 t7 (0 : Int)) a0 t7 (0 : Int)
noncomputable def laws_toBuffer (a0 : TBuffer) : Option (TBufferx × Unit) :=
  Option.bind (laws_toChunkS a0.2.1) fun t9 =>
  some ((a0.1, (t9.1, ())), ())
noncomputable def laws_toReceiver (a0 : TReceiver) : Option (TReceiverx × Unit) :=
  Option.bind (laws_toBuffer a0.2.1) fun t9 =>
  some ((a0.1, (t9.1, (a0.2.2.1, (a0.2.2.2.1, (a0.2.2.2.2.1, ()))))), ())
noncomputable def laws_toWindow (a0 : TWindow) : Option (TWindow × Unit) :=
  some ((a0.1, (a0.2.1, (a0.2.2.1, (a0.2.2.2.1, (a0.2.2.2.2.1, (a0.2.2.2.2.2.1, ())))))), ())
noncomputable def laws_toPriority (a0 : TPriority) : Option (TPriority × Unit) :=
  some ((a0.1, (a0.2.1, ())), ())
noncomputable def laws_toStream (a0 : TStream) : Option (TStreamx × Unit) :=
  Option.bind (laws_toSender a0.2.1) fun t9 =>
  Option.bind (laws_toCredit a0.2.2.1) fun t13 =>
  Option.bind (laws_toReceiver a0.2.2.2.1) fun t17 =>
  Option.bind (laws_toWindow a0.2.2.2.2.1) fun t21 =>
  Option.bind (laws_toPriority a0.2.2.2.2.2.1) fun t25 =>
  some ((a0.1, (t9.1, (t13.1, (t17.1, (t21.1, (t25.1, (a0.2.2.2.2.2.2.1, (a0.2.2.2.2.2.2.2.1, (a0.2.2.2.2.2.2.2.2.1, (a0.2.2.2.2.2.2.2.2.2.1, (a0.2.2.2.2.2.2.2.2.2.2.1, (a0.2.2.2.2.2.2.2.2.2.2.2.1, (a0.2.2.2.2.2.2.2.2.2.2.2.2.1, (a0.2.2.2.2.2.2.2.2.2.2.2.2.2.1, ())))))))))))))), ())
@[reducible] def laws_toStreamS_l1_p : List PE := [.val 0 (.slice 107 (tyStream)) (.u false), .val 3 (.slice 75 (tyStreamx)) (.u true), .val 4 (.int .i64) (.u false)]
def laws_toStreamS_l1_fuel (a0_1 : List TStream) (out3 : List TStreamx) (i4 : Int) : Nat := ((a0_1.length : Int) - i4).toNat + 1
noncomputable def laws_toStreamS_l1 : Nat → List TStream → List TStreamx → Int → Option (List TStreamx × Unit)
  | 0, _, _, _ => none
  | N + 1, a0_1, out3, i4 =>
    bif decide (i4 < (a0_1.length : Int)) then
      guardP (0 ≤ i4 ∧ i4 < a0_1.length) <|
      Option.bind (laws_toStream (a0_1.getD i4.toNat zStream)) fun t20 =>
      guardP (0 ≤ i4 ∧ i4 < out3.length) <|
      laws_toStreamS_l1 N a0_1 (out3.set i4.toNat t20.1) (IntKind.i64.wrap (i4 + (1 : Int)))
    else
      some (out3, ())
noncomputable def laws_toStreamS (a0 : List TStream) : Option (List TStreamx × Unit) :=
  guardP (0 ≤ (a0.length : Int) ∧ (a0.length : Int) ≤ (a0.length : Int) ∧ (a0.length : Int) ≤ capN) <|
  let t7 : List TStreamx := List.replicate (a0.length : Int).toNat zStreamx
  laws_toStreamS_l1 (laws_toStreamS_l1_fuel a0 t7 (0 : Int)) a0 t7 (0 : Int)
noncomputable def laws_toCount (a0 : TCount) : Option (TCount × Unit) :=
  some ((a0.1, (a0.2.1, (a0.2.2.1, ()))), ())
noncomputable def laws_toAllow (a0 : TAllow) : Option (TAllow × Unit) :=
  some ((a0.1, (a0.2.1, (a0.2.2.1, (a0.2.2.2.1, ())))), ())
noncomputable def laws_toFrame (a0 : TFrame) : Option (TFrame × Unit) :=
  some ((a0.1, (a0.2.1, (a0.2.2.1, (a0.2.2.2.1, (a0.2.2.2.2.1, (a0.2.2.2.2.2.1, (a0.2.2.2.2.2.2.1, (a0.2.2.2.2.2.2.2.1, (a0.2.2.2.2.2.2.2.2.1, ()))))))))), ())
@[reducible] def laws_toFrameS_l1_p : List PE := [.val 0 (.slice 59 (tyFrame)) (.u false), .val 3 (.slice 60 (tyFrame)) (.u true), .val 4 (.int .i64) (.u false)]
def laws_toFrameS_l1_fuel (a0_1 : List TFrame) (out3 : List TFrame) (i4 : Int) : Nat := ((a0_1.length : Int) - i4).toNat + 1
noncomputable def laws_toFrameS_l1 : Nat → List TFrame → List TFrame → Int → Option (List TFrame × Unit)
  | 0, _, _, _ => none
  | N + 1, a0_1, out3, i4 =>
    bif decide (i4 < (a0_1.length : Int)) then
      guardP (0 ≤ i4 ∧ i4 < a0_1.length) <|
      Option.bind (laws_toFrame (a0_1.getD i4.toNat zFrame)) fun t20 =>
      guardP (0 ≤ i4 ∧ i4 < out3.length) <|
      laws_toFrameS_l1 N a0_1 (out3.set i4.toNat t20.1) (IntKind.i64.wrap (i4 + (1 : Int)))
    else
      some (out3, ())
noncomputable def laws_toFrameS (a0 : List TFrame) : Option (List TFrame × Unit) :=
  guardP (0 ≤ (a0.length : Int) ∧ (a0.length : Int) ≤ (a0.length : Int) ∧ (a0.length : Int) ≤ capN) <|
  let t7 : List TFrame := List.replicate (a0.length : Int).toNat zFrame
  laws_toFrameS_l1 (laws_toFrameS_l1_fuel a0 t7 (0 : Int)) a0 t7 (0 : Int)
noncomputable def laws_toPacket (a0 : TPacket) : Option (TPacketx × Unit) :=
  Option.bind (laws_toFrameS a0.2.1) fun t9 =>
  some ((a0.1, (t9.1, ())), ())
@[reducible] def laws_toPacketS_l1_p : List PE := [.val 0 (.slice 110 (tyPacket)) (.u false), .val 3 (.slice 115 (tyPacketx)) (.u true), .val 4 (.int .i64) (.u false)]
def laws_toPacketS_l1_fuel (a0_1 : List TPacket) (out3 : List TPacketx) (i4 : Int) : Nat := ((a0_1.length : Int) - i4).toNat + 1
noncomputable def laws_toPacketS_l1 : Nat → List TPacket → List TPacketx → Int → Option (List TPacketx × Unit)
  | 0, _, _, _ => none
  | N + 1, a0_1, out3, i4 =>
    bif decide (i4 < (a0_1.length : Int)) then
      guardP (0 ≤ i4 ∧ i4 < a0_1.length) <|
      Option.bind (laws_toPacket (a0_1.getD i4.toNat zPacket)) fun t20 =>
      guardP (0 ≤ i4 ∧ i4 < out3.length) <|
      laws_toPacketS_l1 N a0_1 (out3.set i4.toNat t20.1) (IntKind.i64.wrap (i4 + (1 : Int)))
    else
      some (out3, ())
noncomputable def laws_toPacketS (a0 : List TPacket) : Option (List TPacketx × Unit) :=
  guardP (0 ≤ (a0.length : Int) ∧ (a0.length : Int) ≤ (a0.length : Int) ∧ (a0.length : Int) ≤ capN) <|
  let t7 : List TPacketx := List.replicate (a0.length : Int).toNat zPacketx
  laws_toPacketS_l1 (laws_toPacketS_l1_fuel a0 t7 (0 : Int)) a0 t7 (0 : Int)
noncomputable def laws_toConn (a0 : TConn) : Option (TConnx × Unit) :=
  Option.bind (laws_toConf a0.2.1) fun t9 =>
  Option.bind (laws_toConf a0.2.2.1) fun t13 =>
  Option.bind (laws_toStreamS a0.2.2.2.1) fun t17 =>
  Option.bind (laws_toCredit a0.2.2.2.2.1) fun t21 =>
  Option.bind (laws_toWindow a0.2.2.2.2.2.1) fun t25 =>
  Option.bind (laws_toCount a0.2.2.2.2.2.2.1) fun t29 =>
  Option.bind (laws_toCount a0.2.2.2.2.2.2.2.1) fun t33 =>
  Option.bind (laws_toAllow a0.2.2.2.2.2.2.2.2.1) fun t37 =>
  Option.bind (laws_toAllow a0.2.2.2.2.2.2.2.2.2.1) fun t41 =>
  Option.bind (laws_toPacketS a0.2.2.2.2.2.2.2.2.2.2.2.2.2.2.2.1) fun t60 =>
  some ((a0.1, (t9.1, (t13.1, (t17.1, (t21.1, (t25.1, (t29.1, (t33.1, (t37.1, (t41.1, (a0.2.2.2.2.2.2.2.2.2.2.1, (a0.2.2.2.2.2.2.2.2.2.2.2.1, (a0.2.2.2.2.2.2.2.2.2.2.2.2.1, (a0.2.2.2.2.2.2.2.2.2.2.2.2.2.1, (a0.2.2.2.2.2.2.2.2.2.2.2.2.2.2.1, (t60.1, (a0.2.2.2.2.2.2.2.2.2.2.2.2.2.2.2.2.1, (a0.2.2.2.2.2.2.2.2.2.2.2.2.2.2.2.2.2.1, ())))))))))))))))))), ())
@[reducible] def spec_FindStream_l1_p : List PE := [.val 0 (.slice 75 (tyStreamx)) (.u false), .val 1 (.int .i64) (.u false), .val 5 (.int .i64) (.u false)]
def spec_FindStream_l1_fuel (l0_1 : List TStreamx) (id1_1 : Int) (i5 : Int) : Nat := ((l0_1.length : Int) - i5).toNat + 1
noncomputable def spec_FindStream_l1 : Nat → List TStreamx → Int → Int → Option (Int × Unit)
  | 0, _, _, _ => none
  | N + 1, l0_1, id1_1, i5 =>
    bif decide (i5 < (l0_1.length : Int)) then
      guardP (0 ≤ i5 ∧ i5 < l0_1.length) <|
      bif (l0_1.getD i5.toNat zStreamx).1 == id1_1 then
        some (i5, ())
      else
        spec_FindStream_l1 N l0_1 id1_1 (IntKind.i64.wrap (i5 + (1 : Int)))
    else
      some ((-1 : Int), ())
noncomputable def spec_FindStream (l0 : List TStreamx) (id1 : Int) : Option (Int × Unit) :=
  spec_FindStream_l1 (spec_FindStream_l1_fuel l0 id1 (0 : Int)) l0 id1 (0 : Int)
noncomputable def spec_l8Copy (r0 : TRing) : Option (TRing × Unit) :=
  guardP (([] : List Int).length + r0.2.2.2.1.length ≤ capN) <|
  some ((r0.1, (r0.2.1, (r0.2.2.1, (([] : List Int) ++ r0.2.2.2.1, ())))), ())
noncomputable def spec_l3Copy (l0 : List TRange) : Option (List TRange × Unit) :=
  guardP (([] : List TRange).length + l0.length ≤ capN) <|
  some (([] : List TRange) ++ l0, ())
noncomputable def spec_l9Copy (s0 : TSenderx) : Option (TSenderx × Unit) :=
  Option.bind (spec_l8Copy s0.2.1) fun t7 =>
  Option.bind (spec_l3Copy s0.2.2.1) fun t10 =>
  Option.bind (spec_l3Copy s0.2.2.2.1) fun t13 =>
  Option.bind (spec_l3Copy s0.2.2.2.2.1) fun t16 =>
  some ((s0.1, (t7.1, (t10.1, (t13.1, (t16.1, (s0.2.2.2.2.2.1, (s0.2.2.2.2.2.2.1, (s0.2.2.2.2.2.2.2.1, (s0.2.2.2.2.2.2.2.2.1, ()))))))))), ())
noncomputable def spec_l6Copy (b0 : TBufferx) : Option (TBufferx × Unit) :=
  guardP (([] : List TChunk).length + b0.2.1.length ≤ capN) <|
  some ((b0.1, (([] : List TChunk) ++ b0.2.1, ())), ())
noncomputable def spec_l7Copy (r0 : TReceiverx) : Option (TReceiverx × Unit) :=
  Option.bind (spec_l6Copy r0.2.1) fun t7 =>
  some ((r0.1, (t7.1, (r0.2.2.1, (r0.2.2.2.1, (r0.2.2.2.2.1, ()))))), ())
noncomputable def spec_l15Copy (s0 : TStreamx) : Option (TStreamx × Unit) :=
  Option.bind (spec_l9Copy s0.2.1) fun t7 =>
  Option.bind (spec_l7Copy s0.2.2.2.1) fun t11 =>
  some ((s0.1, (t7.1, (s0.2.2.1, (t11.1, s0.2.2.2.2)))), ())
noncomputable def spec_StreamOf (c0 : TConnx) (id1 : Int) : Option (TStreamx × Bool × Unit) :=
  Option.bind (spec_FindStream c0.2.2.2.1 id1) fun t10 =>
  bif decide (t10.1 < (0 : Int)) then
    some (((0 : Int), (((0 : Int), (((0 : Int), ((0 : Int), ((0 : Int), (([] : List Int), ())))), (([] : List TRange), (([] : List TRange), (([] : List TRange), ((0 : Int), ((0 : Int), ((0 : Int), ((0 : Int), ()))))))))), (((0 : Int), ((0 : Int), ((0 : Int), ((0 : Int), ())))), (((0 : Int), (((0 : Int), (([] : List TChunk), ())), ((0 : Int), ((0 : Int), ((0 : Int), ()))))), (((0 : Int), ((0 : Int), ((0 : Int), ((0 : Int), ((0 : Int), ((0 : Int), ())))))), (((0 : Int), (false, ())), (false, (false, (false, (false, (false, (false, ((0 : Int), (false, ())))))))))))))), false, ())
  else
    guardP (0 ≤ t10.1 ∧ t10.1 < c0.2.2.2.1.length) <|
    Option.bind (spec_l15Copy (c0.2.2.2.1.getD t10.1.toNat zStreamx)) fun t19 =>
    some (t19.1, true, ())
@[reducible] def spec_IsUrgentFirst_j1_p : List PE := [.val 1 (.slice 60 (tyFrame)) (.u false), .box 2 48 (tyConnx) (.u false), .val 5 (.int .i64) (.u false), .val 6 (.int .i64) (.u false)]
noncomputable def spec_IsUrgentFirst_j1 (K1 : (List TFrame × TConnx × Int × Int × Unit) → Option (Bool × Unit)) (l1_2 : List TFrame) (c2_1 : TConnx) (last5_2 : Int) (i6_1 : Int) : Option (Bool × Unit) :=
  K1 (l1_2, c2_1, last5_2, IntKind.i64.wrap (i6_1 + (1 : Int)), ())
@[reducible] def spec_IsUrgentFirst_j2_p : List PE := [.val 1 (.slice 60 (tyFrame)) (.u false), .box 2 48 (tyConnx) (.u false), .val 5 (.int .i64) (.u false), .val 6 (.int .i64) (.u false), .box 7 75 (tyStreamx) (.u true), .val 8 (.bool) (.u false)]
noncomputable def spec_IsUrgentFirst_j2 (K1 : (List TFrame × TConnx × Int × Int × Unit) → Option (Bool × Unit)) (l1_3 : List TFrame) (c2_2 : TConnx) (last5_3 : Int) (i6_2 : Int) (s7 : TStreamx) (is8 : Bool) : Option (Bool × Unit) :=
  bif (!is8) || (decide (s7.2.2.2.2.2.1.1 < last5_3)) then
    some (false, ())
  else
    spec_IsUrgentFirst_j1 K1 l1_3 c2_2 s7.2.2.2.2.2.1.1 i6_2
@[reducible] def spec_IsUrgentFirst_l1_p : List PE := [.val 1 (.slice 60 (tyFrame)) (.u false), .box 2 48 (tyConnx) (.u false), .val 5 (.int .i64) (.u false), .val 6 (.int .i64) (.u false)]
def spec_IsUrgentFirst_l1_fuel (l1_1 : List TFrame) (c2 : TConnx) (last5_1 : Int) (i6 : Int) : Nat := ((l1_1.length : Int) - i6).toNat + 1
noncomputable def spec_IsUrgentFirst_l1 : Nat → List TFrame → TConnx → Int → Int → Option (Bool × Unit)
  | 0, _, _, _, _ => none
  | N + 1, l1_1, c2, last5_1, i6 =>
    bif decide (i6 < (l1_1.length : Int)) then
      guardP (0 ≤ i6 ∧ i6 < l1_1.length) <|
      bif (l1_1.getD i6.toNat zFrame).1 != (8 : Int) then
        spec_IsUrgentFirst_j1 (fun v => spec_IsUrgentFirst_l1 N v.1 v.2.1 v.2.2.1 v.2.2.2.1) l1_1 c2 last5_1 i6
      else
        guardP (0 ≤ i6 ∧ i6 < l1_1.length) <|
        bothK (
          Option.bind (spec_StreamOf c2 (l1_1.getD i6.toNat zFrame).2.1) fun t28 =>
          bothK (
            bothK (
              bothK (
                spec_IsUrgentFirst_j2 (fun v => spec_IsUrgentFirst_l1 N v.1 v.2.1 v.2.2.1 v.2.2.2.1) l1_1 c2 last5_1 i6 t28.1 t28.2.1
              ) (
                bothK (
                  spec_IsUrgentFirst_j2 (fun v => spec_IsUrgentFirst_l1 N v.1 v.2.1 v.2.2.1 v.2.2.2.1) l1_1 c2 last5_1 i6 t28.1 t28.2.1
                ) (
                  spec_IsUrgentFirst_j2 (fun v => spec_IsUrgentFirst_l1 N v.1 v.2.1 v.2.2.1 v.2.2.2.1) l1_1 c2 last5_1 i6 t28.1 t28.2.1
                )
              )
            ) (
            bothK (
              bothK (
                spec_IsUrgentFirst_j2 (fun v => spec_IsUrgentFirst_l1 N v.1 v.2.1 v.2.2.1 v.2.2.2.1) l1_1 c2 last5_1 i6 t28.1 t28.2.1
              ) (
                spec_IsUrgentFirst_j2 (fun v => spec_IsUrgentFirst_l1 N v.1 v.2.1 v.2.2.1 v.2.2.2.1) l1_1 c2 last5_1 i6 t28.1 t28.2.1
              )
            ) (
              bothK (
                bothK (
                  spec_IsUrgentFirst_j2 (fun v => spec_IsUrgentFirst_l1 N v.1 v.2.1 v.2.2.1 v.2.2.2.1) l1_1 c2 last5_1 i6 t28.1 t28.2.1
                ) (
                  spec_IsUrgentFirst_j2 (fun v => spec_IsUrgentFirst_l1 N v.1 v.2.1 v.2.2.1 v.2.2.2.1) l1_1 c2 last5_1 i6 t28.1 t28.2.1
                )
              ) (
                spec_IsUrgentFirst_j2 (fun v => spec_IsUrgentFirst_l1 N v.1 v.2.1 v.2.2.1 v.2.2.2.1) l1_1 c2 last5_1 i6 t28.1 t28.2.1
              )
            )
            )
          ) (
            bothK (
              bothK (
                spec_IsUrgentFirst_j2 (fun v => spec_IsUrgentFirst_l1 N v.1 v.2.1 v.2.2.1 v.2.2.2.1) l1_1 c2 last5_1 i6 t28.1 t28.2.1
              ) (
                spec_IsUrgentFirst_j2 (fun v => spec_IsUrgentFirst_l1 N v.1 v.2.1 v.2.2.1 v.2.2.2.1) l1_1 c2 last5_1 i6 t28.1 t28.2.1
              )
            ) (
              spec_IsUrgentFirst_j2 (fun v => spec_IsUrgentFirst_l1 N v.1 v.2.1 v.2.2.1 v.2.2.2.1) l1_1 c2 last5_1 i6 t28.1 t28.2.1
            )
          )
        ) (
          Option.bind (spec_StreamOf c2 (l1_1.getD i6.toNat zFrame).2.1) fun t28_1 =>
          bothK (
            bothK (
              spec_IsUrgentFirst_j2 (fun v => spec_IsUrgentFirst_l1 N v.1 v.2.1 v.2.2.1 v.2.2.2.1) l1_1 c2 last5_1 i6 t28_1.1 t28_1.2.1
            ) (
              spec_IsUrgentFirst_j2 (fun v => spec_IsUrgentFirst_l1 N v.1 v.2.1 v.2.2.1 v.2.2.2.1) l1_1 c2 last5_1 i6 t28_1.1 t28_1.2.1
            )
          ) (
            spec_IsUrgentFirst_j2 (fun v => spec_IsUrgentFirst_l1 N v.1 v.2.1 v.2.2.1 v.2.2.2.1) l1_1 c2 last5_1 i6 t28_1.1 t28_1.2.1
          )
        )
    else
      some (true, ())
noncomputable def spec_IsUrgentFirst (c0 : TConnx) (l1 : List TFrame) : Option (Bool × Unit) :=
  spec_IsUrgentFirst_l1 (spec_IsUrgentFirst_l1_fuel l1 c0 (-9223372036854775808 : Int) (0 : Int)) l1 c0 (-9223372036854775808 : Int) (0 : Int)
@[reducible] def impl_OrderOf_l1_p : List PE := [.val 3 (.slice 3 (.int .i64)) (.u true), .val 7 (.slice 60 (tyFrame)) (.u false), .val 8 (.int .i64) (.u false), .val 9 (.int .i64) (.u false)]
def impl_OrderOf_l1_fuel (out3 : List Int) (t7 : List TFrame) (t8_1 : Int) (t9 : Int) : Nat := (t8_1 - t9).toNat + 1
noncomputable def impl_OrderOf_l1 : Nat → List Int → List TFrame → Int → Int → Option (List Int × Unit)
  | 0, _, _, _, _ => none
  | N + 1, out3, t7, t8_1, t9 =>
    bif decide (t9 < t8_1) then
      guardP (0 ≤ t9 ∧ t9 < t7.length) <|
      bif (t7.getD t9.toNat zFrame).1 == (8 : Int) then
        guardP (out3.length + ([(t7.getD t9.toNat zFrame).2.1]).length ≤ capN) <|
        impl_OrderOf_l1 N (out3 ++ ([(t7.getD t9.toNat zFrame).2.1])) t7 t8_1 (IntKind.i64.wrap (t9 + (1 : Int)))
      else
        impl_OrderOf_l1 N out3 t7 t8_1 (IntKind.i64.wrap (t9 + (1 : Int)))
    else
      some (out3, ())
noncomputable def impl_OrderOf (l0 : List TFrame) : Option (List Int × Unit) :=
  impl_OrderOf_l1 (impl_OrderOf_l1_fuel ([] : List Int) l0 (l0.length : Int) (0 : Int)) ([] : List Int) l0 (l0.length : Int) (0 : Int)
noncomputable def impl_FindStream_1 (s0 : TStreamx) (t1 : Int) : Option (Bool × Unit) :=
  some (s0.1 == t1, ())
@[reducible] def slices_IndexFunc_impl_Stream_impl_Stream_impl_FindStream_1_l1_p : List PE := [.val 0 (.slice 75 (tyStreamx)) (.u false), .val 1 (.clo 52 (.pair (.sptr 3 (.int .i64)) (.unit))) (.u false), .val 7 (.int .i64) (.u false), .val 8 (.int .i64) (.u false)]
def slices_IndexFunc_impl_Stream_impl_Stream_impl_FindStream_1_l1_fuel (s0_1 : List TStreamx) (f1_1 : Int × Unit) (t7_1 : Int) (t8 : Int) : Nat := (t7_1 - t8).toNat + 1
noncomputable def slices_IndexFunc_impl_Stream_impl_Stream_impl_FindStream_1_l1 : Nat → List TStreamx → (Int × Unit) → Int → Int → Option (Int × Unit)
  | 0, _, _, _, _ => none
  | N + 1, s0_1, f1_1, t7_1, t8 =>
    bif decide (t8 < t7_1) then
      guardP (0 ≤ t8 ∧ t8 < s0_1.length) <|
      Option.bind (impl_FindStream_1 (s0_1.getD t8.toNat zStreamx) f1_1.1) fun t16 =>
      bif t16.1 then
        some (t8, ())
      else
        slices_IndexFunc_impl_Stream_impl_Stream_impl_FindStream_1_l1 N s0_1 f1_1 t7_1 (IntKind.i64.wrap (t8 + (1 : Int)))
    else
      some ((-1 : Int), ())
noncomputable def slices_IndexFunc_impl_Stream_impl_Stream_impl_FindStream_1 (s0 : List TStreamx) (f1 : Int × Unit) : Option (Int × Unit) :=
  slices_IndexFunc_impl_Stream_impl_Stream_impl_FindStream_1_l1 (slices_IndexFunc_impl_Stream_impl_Stream_impl_FindStream_1_l1_fuel s0 f1 (s0.length : Int) (0 : Int)) s0 f1 (s0.length : Int) (0 : Int)
noncomputable def impl_FindStream (l0 : List TStreamx) (id1 : Int) : Option (Int × Unit) :=
  Option.bind (slices_IndexFunc_impl_Stream_impl_Stream_impl_FindStream_1 l0 (id1, ())) fun t7 =>
  some (t7.1, ())
noncomputable def impl_copyRing (r0 : TRing) : Option (TRing × Unit) :=
  guardP (([] : List Int).length + r0.2.2.2.1.length ≤ capN) <|
  some ((r0.1, (r0.2.1, (r0.2.2.1, (([] : List Int) ++ r0.2.2.2.1, r0.2.2.2.2)))), ())
noncomputable def impl_copyRanges (l0 : List TRange) : Option (List TRange × Unit) :=
  guardP (([] : List TRange).length + l0.length ≤ capN) <|
  some (([] : List TRange) ++ l0, ())
noncomputable def impl_copySender (s0 : TSenderx) : Option (TSenderx × Unit) :=
  Option.bind (impl_copyRing s0.2.1) fun t5 =>
  Option.bind (impl_copyRanges s0.2.2.1) fun t9 =>
  Option.bind (impl_copyRanges s0.2.2.2.1) fun t12 =>
  Option.bind (impl_copyRanges s0.2.2.2.2.1) fun t15 =>
  some ((s0.1, (t5.1, (t9.1, (t12.1, (t15.1, s0.2.2.2.2.2))))), ())
noncomputable def impl_copyBuffer (b0 : TBufferx) : Option (TBufferx × Unit) :=
  guardP (([] : List TChunk).length + b0.2.1.length ≤ capN) <|
  some ((b0.1, (([] : List TChunk) ++ b0.2.1, ())), ())
noncomputable def impl_copyReceiver (r0 : TReceiverx) : Option (TReceiverx × Unit) :=
  Option.bind (impl_copyBuffer r0.2.1) fun t5 =>
  some ((r0.1, (t5.1, r0.2.2)), ())
noncomputable def impl_copyStream (s0 : TStreamx) : Option (TStreamx × Unit) :=
  Option.bind (impl_copySender s0.2.1) fun t5 =>
  Option.bind (impl_copyReceiver s0.2.2.2.1) fun t8 =>
  some ((s0.1, (t5.1, (s0.2.2.1, (t8.1, s0.2.2.2.2)))), ())
noncomputable def impl_StreamOf (c0 : TConnx) (id1 : Int) : Option (TStreamx × Bool × Unit) :=
  Option.bind (impl_FindStream c0.2.2.2.1 id1) fun t10 =>
  bif decide (t10.1 < (0 : Int)) then
    some (((0 : Int), (((0 : Int), (((0 : Int), ((0 : Int), ((0 : Int), (([] : List Int), ())))), (([] : List TRange), (([] : List TRange), (([] : List TRange), ((0 : Int), ((0 : Int), ((0 : Int), ((0 : Int), ()))))))))), (((0 : Int), ((0 : Int), ((0 : Int), ((0 : Int), ())))), (((0 : Int), (((0 : Int), (([] : List TChunk), ())), ((0 : Int), ((0 : Int), ((0 : Int), ()))))), (((0 : Int), ((0 : Int), ((0 : Int), ((0 : Int), ((0 : Int), ((0 : Int), ())))))), (((0 : Int), (false, ())), (false, (false, (false, (false, (false, (false, ((0 : Int), (false, ())))))))))))))), false, ())
  else
    guardP (0 ≤ t10.1 ∧ t10.1 < c0.2.2.2.1.length) <|
    Option.bind (impl_copyStream (c0.2.2.2.1.getD t10.1.toNat zStreamx)) fun t19 =>
    some (t19.1, true, ())
@[reducible] def impl_IsUrgentFirst_l1_p : List PE := [.box 2 48 (tyConnx) (.u false), .val 5 (.bool) (.u false), .val 6 (.int .i64) (.u false), .val 12 (.slice 3 (.int .i64)) (.u true), .val 13 (.int .i64) (.u false), .val 14 (.int .i64) (.u false)]
def impl_IsUrgentFirst_l1_fuel (c2 : TConnx) (first5 : Bool) (before6 : Int) (t12_1 : List Int) (t13_1 : Int) (t14 : Int) : Nat := (t13_1 - t14).toNat + 1
noncomputable def impl_IsUrgentFirst_l1 : Nat → TConnx → Bool → Int → List Int → Int → Int → Option (Bool × Unit)
  | 0, _, _, _, _, _, _ => none
  | N + 1, c2, first5, before6, t12_1, t13_1, t14 =>
    bif decide (t14 < t13_1) then
      guardP (0 ≤ t14 ∧ t14 < t12_1.length) <|
      Option.bind (impl_StreamOf c2 (t12_1.getD t14.toNat (0 : Int))) fun t21 =>
      bif (!t21.2.1) || ((!first5) && (decide (t21.1.2.2.2.2.2.1.1 < before6))) then
        some (false, ())
      else
        impl_IsUrgentFirst_l1 N c2 false t21.1.2.2.2.2.2.1.1 t12_1 t13_1 (IntKind.i64.wrap (t14 + (1 : Int)))
    else
      some (true, ())
noncomputable def impl_IsUrgentFirst (c0 : TConnx) (l1 : List TFrame) : Option (Bool × Unit) :=
  Option.bind (impl_OrderOf l1) fun t12 =>
  impl_IsUrgentFirst_l1 (impl_IsUrgentFirst_l1_fuel c0 true (0 : Int) t12.1 (t12.1.length : Int) (0 : Int)) c0 true (0 : Int) t12.1 (t12.1.length : Int) (0 : Int)
noncomputable def laws_eqConf (a0 : TConf) (b1 : TConf) : Option (Bool × Unit) :=
  bif a0.1 != b1.1 then
    some (false, ())
  else
    bif a0.2.1 != b1.2.1 then
      some (false, ())
    else
      bif a0.2.2.1 != b1.2.2.1 then
        some (false, ())
      else
        bif a0.2.2.2.1 != b1.2.2.2.1 then
          some (false, ())
        else
          bif a0.2.2.2.2.1 != b1.2.2.2.2.1 then
            some (false, ())
          else
            bif a0.2.2.2.2.2.1 != b1.2.2.2.2.2.1 then
              some (false, ())
            else
              bif a0.2.2.2.2.2.2.1 != b1.2.2.2.2.2.2.1 then
                some (false, ())
              else
                bif a0.2.2.2.2.2.2.2.1 != b1.2.2.2.2.2.2.2.1 then
                  some (false, ())
                else
                  some (true, ())
@[reducible] def laws_eqIntS_l1_p : List PE := [.val 0 (.slice 3 (.int .i64)) (.u false), .val 1 (.slice 3 (.int .i64)) (.u false), .val 5 (.int .i64) (.u false)]
def laws_eqIntS_l1_fuel (a0_1 : List Int) (b1_1 : List Int) (i5 : Int) : Nat := ((a0_1.length : Int) - i5).toNat + 1
noncomputable def laws_eqIntS_l1 : Nat → List Int → List Int → Int → Option (Bool × Unit)
  | 0, _, _, _ => none
  | N + 1, a0_1, b1_1, i5 =>
    bif decide (i5 < (a0_1.length : Int)) then
      guardP (0 ≤ i5 ∧ i5 < a0_1.length) <|
      guardP (0 ≤ i5 ∧ i5 < b1_1.length) <|
      bif (a0_1.getD i5.toNat (0 : Int)) != (b1_1.getD i5.toNat (0 : Int)) then
        some (false, ())
      else
        laws_eqIntS_l1 N a0_1 b1_1 (IntKind.i64.wrap (i5 + (1 : Int)))
    else
      some (true, ())
noncomputable def laws_eqIntS (a0 : List Int) (b1 : List Int) : Option (Bool × Unit) :=
  bif (a0.length : Int) != (b1.length : Int) then
    some (false, ())
  else
    laws_eqIntS_l1 (laws_eqIntS_l1_fuel a0 b1 (0 : Int)) a0 b1 (0 : Int)
noncomputable def laws_eqRing (a0 : TRing) (b1 : TRing) : Option (Bool × Unit) :=
  bif a0.1 != b1.1 then
    some (false, ())
  else
    bif a0.2.1 != b1.2.1 then
      some (false, ())
    else
      bif a0.2.2.1 != b1.2.2.1 then
        some (false, ())
      else
        Option.bind (laws_eqIntS a0.2.2.2.1 b1.2.2.2.1) fun t24 =>
        bif !t24.1 then
          some (false, ())
        else
          some (true, ())
noncomputable def laws_eqRange (a0 : TRange) (b1 : TRange) : Option (Bool × Unit) :=
  bif a0.1 != b1.1 then
    some (false, ())
  else
    bif a0.2.1 != b1.2.1 then
      some (false, ())
    else
      some (true, ())
@[reducible] def laws_eqRangeS_l1_p : List PE := [.val 0 (.slice 147 (tyRange)) (.u false), .val 1 (.slice 147 (tyRange)) (.u false), .val 5 (.int .i64) (.u false)]
def laws_eqRangeS_l1_fuel (a0_1 : List TRange) (b1_1 : List TRange) (i5 : Int) : Nat := ((a0_1.length : Int) - i5).toNat + 1
noncomputable def laws_eqRangeS_l1 : Nat → List TRange → List TRange → Int → Option (Bool × Unit)
  | 0, _, _, _ => none
  | N + 1, a0_1, b1_1, i5 =>
    bif decide (i5 < (a0_1.length : Int)) then
      guardP (0 ≤ i5 ∧ i5 < a0_1.length) <|
      guardP (0 ≤ i5 ∧ i5 < b1_1.length) <|
      Option.bind (laws_eqRange (a0_1.getD i5.toNat zRange) (b1_1.getD i5.toNat zRange)) fun t25 =>
      bif !t25.1 then
        some (false, ())
      else
        laws_eqRangeS_l1 N a0_1 b1_1 (IntKind.i64.wrap (i5 + (1 : Int)))
    else
      some (true, ())
noncomputable def laws_eqRangeS (a0 : List TRange) (b1 : List TRange) : Option (Bool × Unit) :=
  bif (a0.length : Int) != (b1.length : Int) then
    some (false, ())
  else
    laws_eqRangeS_l1 (laws_eqRangeS_l1_fuel a0 b1 (0 : Int)) a0 b1 (0 : Int)
noncomputable def laws_eqSender (a0 : TSenderx) (b1 : TSenderx) : Option (Bool × Unit) :=
  bif a0.1 != b1.1 then
    some (false, ())
  else
    Option.bind (laws_eqRing a0.2.1 b1.2.1) fun t14 =>
    bif !t14.1 then
      some (false, ())
    else
      Option.bind (laws_eqRangeS a0.2.2.1 b1.2.2.1) fun t20 =>
      bif !t20.1 then
        some (false, ())
      else
        Option.bind (laws_eqRangeS a0.2.2.2.1 b1.2.2.2.1) fun t26 =>
        bif !t26.1 then
          some (false, ())
        else
          Option.bind (laws_eqRangeS a0.2.2.2.2.1 b1.2.2.2.2.1) fun t32 =>
          bif !t32.1 then
            some (false, ())
          else
            bif a0.2.2.2.2.2.1 != b1.2.2.2.2.2.1 then
              some (false, ())
            else
              bif a0.2.2.2.2.2.2.1 != b1.2.2.2.2.2.2.1 then
                some (false, ())
              else
                bif a0.2.2.2.2.2.2.2.1 != b1.2.2.2.2.2.2.2.1 then
                  some (false, ())
                else
                  bif a0.2.2.2.2.2.2.2.2.1 != b1.2.2.2.2.2.2.2.2.1 then
                    some (false, ())
                  else
                    some (true, ())
noncomputable def laws_eqCredit (a0 : TAllow) (b1 : TAllow) : Option (Bool × Unit) :=
  bif a0.1 != b1.1 then
    some (false, ())
  else
    bif a0.2.1 != b1.2.1 then
      some (false, ())
    else
      bif a0.2.2.1 != b1.2.2.1 then
        some (false, ())
      else
        bif a0.2.2.2.1 != b1.2.2.2.1 then
          some (false, ())
        else
          some (true, ())
noncomputable def laws_eqChunk (a0 : TChunk) (b1 : TChunk) : Option (Bool × Unit) :=
  bif a0.1 != b1.1 then
    some (false, ())
  else
    bif !(a0.2.1 == b1.2.1) then
      some (false, ())
    else
      some (true, ())
@[reducible] def laws_eqChunkS_l1_p : List PE := [.val 0 (.slice 157 (tyChunk)) (.u false), .val 1 (.slice 157 (tyChunk)) (.u false), .val 5 (.int .i64) (.u false)]
def laws_eqChunkS_l1_fuel (a0_1 : List TChunk) (b1_1 : List TChunk) (i5 : Int) : Nat := ((a0_1.length : Int) - i5).toNat + 1
noncomputable def laws_eqChunkS_l1 : Nat → List TChunk → List TChunk → Int → Option (Bool × Unit)
  | 0, _, _, _ => none
  | N + 1, a0_1, b1_1, i5 =>
    bif decide (i5 < (a0_1.length : Int)) then
      guardP (0 ≤ i5 ∧ i5 < a0_1.length) <|
      guardP (0 ≤ i5 ∧ i5 < b1_1.length) <|
      Option.bind (laws_eqChunk (a0_1.getD i5.toNat zChunk) (b1_1.getD i5.toNat zChunk)) fun t25 =>
      bif !t25.1 then
        some (false, ())
      else
        laws_eqChunkS_l1 N a0_1 b1_1 (IntKind.i64.wrap (i5 + (1 : Int)))
    else
      some (true, ())
noncomputable def laws_eqChunkS (a0 : List TChunk) (b1 : List TChunk) : Option (Bool × Unit) :=
  bif (a0.length : Int) != (b1.length : Int) then
    some (false, ())
  else
    laws_eqChunkS_l1 (laws_eqChunkS_l1_fuel a0 b1 (0 : Int)) a0 b1 (0 : Int)
noncomputable def laws_eqBuffer (a0 : TBufferx) (b1 : TBufferx) : Option (Bool × Unit) :=
  bif a0.1 != b1.1 then
    some (false, ())
  else
    Option.bind (laws_eqChunkS a0.2.1 b1.2.1) fun t14 =>
    bif !t14.1 then
      some (false, ())
    else
      some (true, ())
noncomputable def laws_eqReceiver (a0 : TReceiverx) (b1 : TReceiverx) : Option (Bool × Unit) :=
  bif a0.1 != b1.1 then
    some (false, ())
  else
    Option.bind (laws_eqBuffer a0.2.1 b1.2.1) fun t14 =>
    bif !t14.1 then
      some (false, ())
    else
      bif a0.2.2.1 != b1.2.2.1 then
        some (false, ())
      else
        bif a0.2.2.2.1 != b1.2.2.2.1 then
          some (false, ())
        else
          bif a0.2.2.2.2.1 != b1.2.2.2.2.1 then
            some (false, ())
          else
            some (true, ())
noncomputable def laws_eqWindow (a0 : TWindow) (b1 : TWindow) : Option (Bool × Unit) :=
  bif a0.1 != b1.1 then
    some (false, ())
  else
    bif a0.2.1 != b1.2.1 then
      some (false, ())
    else
      bif a0.2.2.1 != b1.2.2.1 then
        some (false, ())
      else
        bif a0.2.2.2.1 != b1.2.2.2.1 then
          some (false, ())
        else
          bif a0.2.2.2.2.1 != b1.2.2.2.2.1 then
            some (false, ())
          else
            bif a0.2.2.2.2.2.1 != b1.2.2.2.2.2.1 then
              some (false, ())
            else
              some (true, ())
noncomputable def laws_eqPriority (a0 : TPriority) (b1 : TPriority) : Option (Bool × Unit) :=
  bif a0.1 != b1.1 then
    some (false, ())
  else
    bif !(a0.2.1 == b1.2.1) then
      some (false, ())
    else
      some (true, ())
noncomputable def laws_eqStream (a0 : TStreamx) (b1 : TStreamx) : Option (Bool × Unit) :=
  bif a0.1 != b1.1 then
    some (false, ())
  else
    Option.bind (laws_eqSender a0.2.1 b1.2.1) fun t14 =>
    bif !t14.1 then
      some (false, ())
    else
      Option.bind (laws_eqCredit a0.2.2.1 b1.2.2.1) fun t20 =>
      bif !t20.1 then
        some (false, ())
      else
        Option.bind (laws_eqReceiver a0.2.2.2.1 b1.2.2.2.1) fun t26 =>
        bif !t26.1 then
          some (false, ())
        else
          Option.bind (laws_eqWindow a0.2.2.2.2.1 b1.2.2.2.2.1) fun t32 =>
          bif !t32.1 then
            some (false, ())
          else
            Option.bind (laws_eqPriority a0.2.2.2.2.2.1 b1.2.2.2.2.2.1) fun t38 =>
            bif !t38.1 then
              some (false, ())
            else
              bif !(a0.2.2.2.2.2.2.1 == b1.2.2.2.2.2.2.1) then
                some (false, ())
              else
                bif !(a0.2.2.2.2.2.2.2.1 == b1.2.2.2.2.2.2.2.1) then
                  some (false, ())
                else
                  bif !(a0.2.2.2.2.2.2.2.2.1 == b1.2.2.2.2.2.2.2.2.1) then
                    some (false, ())
                  else
                    bif !(a0.2.2.2.2.2.2.2.2.2.1 == b1.2.2.2.2.2.2.2.2.2.1) then
                      some (false, ())
                    else
                      bif !(a0.2.2.2.2.2.2.2.2.2.2.1 == b1.2.2.2.2.2.2.2.2.2.2.1) then
                        some (false, ())
                      else
                        bif !(a0.2.2.2.2.2.2.2.2.2.2.2.1 == b1.2.2.2.2.2.2.2.2.2.2.2.1) then
                          some (false, ())
                        else
                          bif a0.2.2.2.2.2.2.2.2.2.2.2.2.1 != b1.2.2.2.2.2.2.2.2.2.2.2.2.1 then
                            some (false, ())
                          else
                            bif !(a0.2.2.2.2.2.2.2.2.2.2.2.2.2.1 == b1.2.2.2.2.2.2.2.2.2.2.2.2.2.1) then
                              some (false, ())
                            else
                              some (true, ())
@[reducible] def laws_eqStreamS_l1_p : List PE := [.val 0 (.slice 75 (tyStreamx)) (.u false), .val 1 (.slice 75 (tyStreamx)) (.u false), .val 5 (.int .i64) (.u false)]
def laws_eqStreamS_l1_fuel (a0_1 : List TStreamx) (b1_1 : List TStreamx) (i5 : Int) : Nat := ((a0_1.length : Int) - i5).toNat + 1
noncomputable def laws_eqStreamS_l1 : Nat → List TStreamx → List TStreamx → Int → Option (Bool × Unit)
  | 0, _, _, _ => none
  | N + 1, a0_1, b1_1, i5 =>
    bif decide (i5 < (a0_1.length : Int)) then
      guardP (0 ≤ i5 ∧ i5 < a0_1.length) <|
      guardP (0 ≤ i5 ∧ i5 < b1_1.length) <|
      Option.bind (laws_eqStream (a0_1.getD i5.toNat zStreamx) (b1_1.getD i5.toNat zStreamx)) fun t25 =>
      bif !t25.1 then
        some (false, ())
      else
        laws_eqStreamS_l1 N a0_1 b1_1 (IntKind.i64.wrap (i5 + (1 : Int)))
    else
      some (true, ())
noncomputable def laws_eqStreamS (a0 : List TStreamx) (b1 : List TStreamx) : Option (Bool × Unit) :=
  bif (a0.length : Int) != (b1.length : Int) then
    some (false, ())
  else
    laws_eqStreamS_l1 (laws_eqStreamS_l1_fuel a0 b1 (0 : Int)) a0 b1 (0 : Int)
noncomputable def laws_eqCount (a0 : TCount) (b1 : TCount) : Option (Bool × Unit) :=
  bif a0.1 != b1.1 then
    some (false, ())
  else
    bif a0.2.1 != b1.2.1 then
      some (false, ())
    else
      bif a0.2.2.1 != b1.2.2.1 then
        some (false, ())
      else
        some (true, ())
noncomputable def laws_eqAllow (a0 : TAllow) (b1 : TAllow) : Option (Bool × Unit) :=
  bif a0.1 != b1.1 then
    some (false, ())
  else
    bif a0.2.1 != b1.2.1 then
      some (false, ())
    else
      bif a0.2.2.1 != b1.2.2.1 then
        some (false, ())
      else
        bif a0.2.2.2.1 != b1.2.2.2.1 then
          some (false, ())
        else
          some (true, ())
noncomputable def laws_eqFrame (a0 : TFrame) (b1 : TFrame) : Option (Bool × Unit) :=
  bif a0.1 != b1.1 then
    some (false, ())
  else
    bif a0.2.1 != b1.2.1 then
      some (false, ())
    else
      bif a0.2.2.1 != b1.2.2.1 then
        some (false, ())
      else
        bif !(a0.2.2.2.1 == b1.2.2.2.1) then
          some (false, ())
        else
          bif !(a0.2.2.2.2.1 == b1.2.2.2.2.1) then
            some (false, ())
          else
            bif a0.2.2.2.2.2.1 != b1.2.2.2.2.2.1 then
              some (false, ())
            else
              bif a0.2.2.2.2.2.2.1 != b1.2.2.2.2.2.2.1 then
                some (false, ())
              else
                bif a0.2.2.2.2.2.2.2.1 != b1.2.2.2.2.2.2.2.1 then
                  some (false, ())
                else
                  bif !(a0.2.2.2.2.2.2.2.2.1 == b1.2.2.2.2.2.2.2.2.1) then
                    some (false, ())
                  else
                    some (true, ())
@[reducible] def laws_eqFrameS_l1_p : List PE := [.val 0 (.slice 60 (tyFrame)) (.u false), .val 1 (.slice 60 (tyFrame)) (.u false), .val 5 (.int .i64) (.u false)]
def laws_eqFrameS_l1_fuel (a0_1 : List TFrame) (b1_1 : List TFrame) (i5 : Int) : Nat := ((a0_1.length : Int) - i5).toNat + 1
noncomputable def laws_eqFrameS_l1 : Nat → List TFrame → List TFrame → Int → Option (Bool × Unit)
  | 0, _, _, _ => none
  | N + 1, a0_1, b1_1, i5 =>
    bif decide (i5 < (a0_1.length : Int)) then
      guardP (0 ≤ i5 ∧ i5 < a0_1.length) <|
      guardP (0 ≤ i5 ∧ i5 < b1_1.length) <|
      Option.bind (laws_eqFrame (a0_1.getD i5.toNat zFrame) (b1_1.getD i5.toNat zFrame)) fun t25 =>
      bif !t25.1 then
        some (false, ())
      else
        laws_eqFrameS_l1 N a0_1 b1_1 (IntKind.i64.wrap (i5 + (1 : Int)))
    else
      some (true, ())
noncomputable def laws_eqFrameS (a0 : List TFrame) (b1 : List TFrame) : Option (Bool × Unit) :=
  bif (a0.length : Int) != (b1.length : Int) then
    some (false, ())
  else
    laws_eqFrameS_l1 (laws_eqFrameS_l1_fuel a0 b1 (0 : Int)) a0 b1 (0 : Int)
noncomputable def laws_eqPacket (a0 : TPacketx) (b1 : TPacketx) : Option (Bool × Unit) :=
  bif a0.1 != b1.1 then
    some (false, ())
  else
    Option.bind (laws_eqFrameS a0.2.1 b1.2.1) fun t14 =>
    bif !t14.1 then
      some (false, ())
    else
      some (true, ())
@[reducible] def laws_eqPacketS_l1_p : List PE := [.val 0 (.slice 115 (tyPacketx)) (.u false), .val 1 (.slice 115 (tyPacketx)) (.u false), .val 5 (.int .i64) (.u false)]
def laws_eqPacketS_l1_fuel (a0_1 : List TPacketx) (b1_1 : List TPacketx) (i5 : Int) : Nat := ((a0_1.length : Int) - i5).toNat + 1
noncomputable def laws_eqPacketS_l1 : Nat → List TPacketx → List TPacketx → Int → Option (Bool × Unit)
  | 0, _, _, _ => none
  | N + 1, a0_1, b1_1, i5 =>
    bif decide (i5 < (a0_1.length : Int)) then
      guardP (0 ≤ i5 ∧ i5 < a0_1.length) <|
      guardP (0 ≤ i5 ∧ i5 < b1_1.length) <|
      Option.bind (laws_eqPacket (a0_1.getD i5.toNat zPacketx) (b1_1.getD i5.toNat zPacketx)) fun t25 =>
      bif !t25.1 then
        some (false, ())
      else
        laws_eqPacketS_l1 N a0_1 b1_1 (IntKind.i64.wrap (i5 + (1 : Int)))
    else
      some (true, ())
noncomputable def laws_eqPacketS (a0 : List TPacketx) (b1 : List TPacketx) : Option (Bool × Unit) :=
  bif (a0.length : Int) != (b1.length : Int) then
    some (false, ())
  else
    laws_eqPacketS_l1 (laws_eqPacketS_l1_fuel a0 b1 (0 : Int)) a0 b1 (0 : Int)
noncomputable def laws_eqConn (a0 : TConnx) (b1 : TConnx) : Option (Bool × Unit) :=
  bif !(a0.1 == b1.1) then
    some (false, ())
  else
    Option.bind (laws_eqConf a0.2.1 b1.2.1) fun t14 =>
    bif !t14.1 then
      some (false, ())
    else
      Option.bind (laws_eqConf a0.2.2.1 b1.2.2.1) fun t20 =>
      bif !t20.1 then
        some (false, ())
      else
        Option.bind (laws_eqStreamS a0.2.2.2.1 b1.2.2.2.1) fun t26 =>
        bif !t26.1 then
          some (false, ())
        else
          Option.bind (laws_eqCredit a0.2.2.2.2.1 b1.2.2.2.2.1) fun t32 =>
          bif !t32.1 then
            some (false, ())
          else
            Option.bind (laws_eqWindow a0.2.2.2.2.2.1 b1.2.2.2.2.2.1) fun t38 =>
            bif !t38.1 then
              some (false, ())
            else
              Option.bind (laws_eqCount a0.2.2.2.2.2.2.1 b1.2.2.2.2.2.2.1) fun t44 =>
              bif !t44.1 then
                some (false, ())
              else
                Option.bind (laws_eqCount a0.2.2.2.2.2.2.2.1 b1.2.2.2.2.2.2.2.1) fun t50 =>
                bif !t50.1 then
                  some (false, ())
                else
                  Option.bind (laws_eqAllow a0.2.2.2.2.2.2.2.2.1 b1.2.2.2.2.2.2.2.2.1) fun t56 =>
                  bif !t56.1 then
                    some (false, ())
                  else
                    Option.bind (laws_eqAllow a0.2.2.2.2.2.2.2.2.2.1 b1.2.2.2.2.2.2.2.2.2.1) fun t62 =>
                    bif !t62.1 then
                      some (false, ())
                    else
                      bif !(a0.2.2.2.2.2.2.2.2.2.2.1 == b1.2.2.2.2.2.2.2.2.2.2.1) then
                        some (false, ())
                      else
                        bif !(a0.2.2.2.2.2.2.2.2.2.2.2.1 == b1.2.2.2.2.2.2.2.2.2.2.2.1) then
                          some (false, ())
                        else
                          bif !(a0.2.2.2.2.2.2.2.2.2.2.2.2.1 == b1.2.2.2.2.2.2.2.2.2.2.2.2.1) then
                            some (false, ())
                          else
                            bif a0.2.2.2.2.2.2.2.2.2.2.2.2.2.1 != b1.2.2.2.2.2.2.2.2.2.2.2.2.2.1 then
                              some (false, ())
                            else
                              bif a0.2.2.2.2.2.2.2.2.2.2.2.2.2.2.1 != b1.2.2.2.2.2.2.2.2.2.2.2.2.2.2.1 then
                                some (false, ())
                              else
                                Option.bind (laws_eqPacketS a0.2.2.2.2.2.2.2.2.2.2.2.2.2.2.2.1 b1.2.2.2.2.2.2.2.2.2.2.2.2.2.2.2.1) fun t93 =>
                                bif !t93.1 then
                                  some (false, ())
                                else
                                  bif a0.2.2.2.2.2.2.2.2.2.2.2.2.2.2.2.2.1 != b1.2.2.2.2.2.2.2.2.2.2.2.2.2.2.2.2.1 then
                                    some (false, ())
                                  else
                                    bif a0.2.2.2.2.2.2.2.2.2.2.2.2.2.2.2.2.2.1 != b1.2.2.2.2.2.2.2.2.2.2.2.2.2.2.2.2.2.1 then
                                      some (false, ())
                                    else
                                      some (true, ())
noncomputable def laws_FnExactIsUrgentFirst (aC0 : TConn) (aL1 : List TFrame) : Option (Bool × Unit) :=
  Option.bind (laws_szConn aC0 (1048576 : Int)) fun t12 =>
  bif decide (t12.1 < (0 : Int)) then
    some (true, ())
  else
    Option.bind (laws_szFrameS aL1 t12.1) fun t17 =>
    bif decide (t17.1 < (0 : Int)) then
      some (true, ())
    else
      Option.bind (laws_toConn aC0) fun t21 =>
      Option.bind (laws_toFrameS aL1) fun t23 =>
      Option.bind (spec_IsUrgentFirst t21.1 t23.1) fun t24 =>
      Option.bind (laws_toConn aC0) fun t26 =>
      Option.bind (laws_toFrameS aL1) fun t28 =>
      Option.bind (impl_IsUrgentFirst t26.1 t28.1) fun t31 =>
      bif !(t31.1 == t24.1) then
        some (false, ())
      else
        Option.bind (laws_toConn aC0) fun t37 =>
        Option.bind (laws_eqConn t26.1 t37.1) fun t38 =>
        bif !t38.1 then
          some (false, ())
        else
          Option.bind (laws_toFrameS aL1) fun t42 =>
          Option.bind (laws_eqFrameS t28.1 t42.1) fun t43 =>
          bif !t43.1 then
            some (false, ())
          else
            some (true, ())
def tab : Tab := lookT [(3, .int .i64), (4, .bool), (9, .str), (23, tyConf), (24, .slice 107 (tyStream)), (26, tyAllow), (28, tyWindow), (30, tyCount), (32, tyAllow), (33, .slice 110 (tyPacket)), (35, tyConn), (36, .slice 59 (tyFrame)), (40, tyConf), (41, .slice 75 (tyStreamx)), (42, tyAllow), (43, tyWindow), (44, tyCount), (45, tyAllow), (46, .slice 115 (tyPacketx)), (48, tyConnx), (50, .slice 60 (tyFrame)), (59, tyFrame), (60, tyFrame), (61, .slice 3 (.int .i64)), (63, tyRing), (64, .slice 147 (tyRange)), (66, tySenderx), (67, .slice 157 (tyChunk)), (69, tyBufferx), (71, tyReceiverx), (73, tyPriority), (75, tyStreamx), (96, tyRing), (97, .slice 149 (tyRange)), (99, tySender), (100, .slice 156 (tyChunk)), (102, tyBuffer), (104, tyReceiver), (105, tyPriority), (107, tyStream), (110, tyPacket), (115, tyPacketx), (147, tyRange), (149, tyRange), (156, tyChunk), (157, tyChunk)]
theorem tok_3 : TOK Try.prog 3 (.int .i64) := ⟨by kernel_rfl, by kernel_rfl⟩
theorem tok_4 : TOK Try.prog 4 (.bool) := ⟨by kernel_rfl, by kernel_rfl⟩
theorem tok_9 : TOK Try.prog 9 (.str) := ⟨by kernel_rfl, by kernel_rfl⟩
theorem tok_23 : TOK Try.prog 23 (tyConf) := ⟨by kernel_rfl, by kernel_rfl⟩
theorem tok_24 : TOK Try.prog 24 (.slice 107 (tyStream)) := ⟨by kernel_rfl, by kernel_rfl⟩
theorem tok_26 : TOK Try.prog 26 (tyAllow) := ⟨by kernel_rfl, by kernel_rfl⟩
theorem tok_28 : TOK Try.prog 28 (tyWindow) := ⟨by kernel_rfl, by kernel_rfl⟩
theorem tok_30 : TOK Try.prog 30 (tyCount) := ⟨by kernel_rfl, by kernel_rfl⟩
theorem tok_32 : TOK Try.prog 32 (tyAllow) := ⟨by kernel_rfl, by kernel_rfl⟩
theorem tok_33 : TOK Try.prog 33 (.slice 110 (tyPacket)) := ⟨by kernel_rfl, by kernel_rfl⟩
theorem tok_35 : TOK Try.prog 35 (tyConn) := ⟨by kernel_rfl, by kernel_rfl⟩
theorem tok_36 : TOK Try.prog 36 (.slice 59 (tyFrame)) := ⟨by kernel_rfl, by kernel_rfl⟩
theorem tok_40 : TOK Try.prog 40 (tyConf) := ⟨by kernel_rfl, by kernel_rfl⟩
theorem tok_41 : TOK Try.prog 41 (.slice 75 (tyStreamx)) := ⟨by kernel_rfl, by kernel_rfl⟩
theorem tok_42 : TOK Try.prog 42 (tyAllow) := ⟨by kernel_rfl, by kernel_rfl⟩
theorem tok_43 : TOK Try.prog 43 (tyWindow) := ⟨by kernel_rfl, by kernel_rfl⟩
theorem tok_44 : TOK Try.prog 44 (tyCount) := ⟨by kernel_rfl, by kernel_rfl⟩
theorem tok_45 : TOK Try.prog 45 (tyAllow) := ⟨by kernel_rfl, by kernel_rfl⟩
theorem tok_46 : TOK Try.prog 46 (.slice 115 (tyPacketx)) := ⟨by kernel_rfl, by kernel_rfl⟩
theorem tok_48 : TOK Try.prog 48 (tyConnx) := ⟨by kernel_rfl, by kernel_rfl⟩
theorem tok_50 : TOK Try.prog 50 (.slice 60 (tyFrame)) := ⟨by kernel_rfl, by kernel_rfl⟩
theorem tok_59 : TOK Try.prog 59 (tyFrame) := ⟨by kernel_rfl, by kernel_rfl⟩
theorem tok_60 : TOK Try.prog 60 (tyFrame) := ⟨by kernel_rfl, by kernel_rfl⟩
theorem tok_61 : TOK Try.prog 61 (.slice 3 (.int .i64)) := ⟨by kernel_rfl, by kernel_rfl⟩
theorem tok_63 : TOK Try.prog 63 (tyRing) := ⟨by kernel_rfl, by kernel_rfl⟩
theorem tok_64 : TOK Try.prog 64 (.slice 147 (tyRange)) := ⟨by kernel_rfl, by kernel_rfl⟩
theorem tok_66 : TOK Try.prog 66 (tySenderx) := ⟨by kernel_rfl, by kernel_rfl⟩
theorem tok_67 : TOK Try.prog 67 (.slice 157 (tyChunk)) := ⟨by kernel_rfl, by kernel_rfl⟩
theorem tok_69 : TOK Try.prog 69 (tyBufferx) := ⟨by kernel_rfl, by kernel_rfl⟩
theorem tok_71 : TOK Try.prog 71 (tyReceiverx) := ⟨by kernel_rfl, by kernel_rfl⟩
theorem tok_73 : TOK Try.prog 73 (tyPriority) := ⟨by kernel_rfl, by kernel_rfl⟩
theorem tok_75 : TOK Try.prog 75 (tyStreamx) := ⟨by kernel_rfl, by kernel_rfl⟩
theorem tok_96 : TOK Try.prog 96 (tyRing) := ⟨by kernel_rfl, by kernel_rfl⟩
theorem tok_97 : TOK Try.prog 97 (.slice 149 (tyRange)) := ⟨by kernel_rfl, by kernel_rfl⟩
theorem tok_99 : TOK Try.prog 99 (tySender) := ⟨by kernel_rfl, by kernel_rfl⟩
theorem tok_100 : TOK Try.prog 100 (.slice 156 (tyChunk)) := ⟨by kernel_rfl, by kernel_rfl⟩
theorem tok_102 : TOK Try.prog 102 (tyBuffer) := ⟨by kernel_rfl, by kernel_rfl⟩
theorem tok_104 : TOK Try.prog 104 (tyReceiver) := ⟨by kernel_rfl, by kernel_rfl⟩
theorem tok_105 : TOK Try.prog 105 (tyPriority) := ⟨by kernel_rfl, by kernel_rfl⟩
theorem tok_107 : TOK Try.prog 107 (tyStream) := ⟨by kernel_rfl, by kernel_rfl⟩
theorem tok_110 : TOK Try.prog 110 (tyPacket) := ⟨by kernel_rfl, by kernel_rfl⟩
theorem tok_115 : TOK Try.prog 115 (tyPacketx) := ⟨by kernel_rfl, by kernel_rfl⟩
theorem tok_147 : TOK Try.prog 147 (tyRange) := ⟨by kernel_rfl, by kernel_rfl⟩
theorem tok_149 : TOK Try.prog 149 (tyRange) := ⟨by kernel_rfl, by kernel_rfl⟩
theorem tok_156 : TOK Try.prog 156 (tyChunk) := ⟨by kernel_rfl, by kernel_rfl⟩
theorem tok_157 : TOK Try.prog 157 (tyChunk) := ⟨by kernel_rfl, by kernel_rfl⟩
theorem tab_ok : tab.ok Try.prog := (tab_cons tok_3 (tab_cons tok_4 (tab_cons tok_9 (tab_cons tok_23 (tab_cons tok_24 (tab_cons tok_26 (tab_cons tok_28 (tab_cons tok_30 (tab_cons tok_32 (tab_cons tok_33 (tab_cons tok_35 (tab_cons tok_36 (tab_cons tok_40 (tab_cons tok_41 (tab_cons tok_42 (tab_cons tok_43 (tab_cons tok_44 (tab_cons tok_45 (tab_cons tok_46 (tab_cons tok_48 (tab_cons tok_50 (tab_cons tok_59 (tab_cons tok_60 (tab_cons tok_61 (tab_cons tok_63 (tab_cons tok_64 (tab_cons tok_66 (tab_cons tok_67 (tab_cons tok_69 (tab_cons tok_71 (tab_cons tok_73 (tab_cons tok_75 (tab_cons tok_96 (tab_cons tok_97 (tab_cons tok_99 (tab_cons tok_100 (tab_cons tok_102 (tab_cons tok_104 (tab_cons tok_105 (tab_cons tok_107 (tab_cons tok_110 (tab_cons tok_115 (tab_cons tok_147 (tab_cons tok_149 (tab_cons tok_156 (tab_cons tok_157 tab_nil))))))))))))))))))))))))))))))))))))))))))))))
abbrev glob : Glob := Glob.none
def eqsL : List Nat := []
theorem eqs_ok : EqsL Try.prog tab eqsL := eqs_nil
@[reducible] def cfg (ln : List Nat) (Γ : Env) (ΓL : EnvL) (ΓB : EnvB) : Cfg := { τ := tab, eq := fun e => eqsL.any (Nat.beq e), Γ := Γ, ΓL := ΓL, ΓB := ΓB, lent := ln }
theorem cfg_ok {ln : List Nat} {Γ : Env} {ΓL : EnvL} {ΓB : EnvB} (h : Γ.ok Try.prog glob) (hL : ΓL.ok Try.prog glob) (hB : ΓB.ok Try.prog glob) : (cfg ln Γ ΓL ΓB).ok Try.prog glob := ⟨tab_ok, eqs_ok, h, by kernel_rfl, hL, hB⟩
@[reducible] noncomputable def e_laws_szIntS : FnE := { f := 73, args := [.slice 3 (.int .i64), .int .i64], res := [.int .i64], F := fun xs => laws_szIntS xs.1 xs.2.1 }
theorem ok_laws_szIntS : FnOK Try.prog glob e_laws_szIntS := by
  refine FnOK.of (e := e_laws_szIntS) (C := cfg [] [] [] []) (cfg_ok env_nil envL_nil envB_nil) Try.func73 (c := codeOf Try.f73) rfl Try.call73 (by decide)
    (.leaf) ?_ ?_
  · exact conds_leaf _ _
  · intro xs r h
    refine Eq.trans (Eq.symm ?_) h
    kernel_rfl
@[reducible] noncomputable def e_laws_szRing : FnE := { f := 58, args := [tyRing, .int .i64], res := [.int .i64], F := fun xs => laws_szRing xs.1 xs.2.1 }
theorem ok_laws_szRing : FnOK Try.prog glob e_laws_szRing := by
  refine FnOK.of (e := e_laws_szRing) (C := cfg [] [e_laws_szIntS] [] []) (cfg_ok (env_cons ok_laws_szIntS env_nil) envL_nil envB_nil) Try.func58 (c := codeOf Try.f58) rfl Try.call58 (by decide)
    (.leaf) ?_ ?_
  · exact conds_leaf _ _
  · intro xs r h
    refine Eq.trans (Eq.symm ?_) h
    kernel_rfl
@[reducible] noncomputable def e_laws_szRangeS : FnE := { f := 59, args := [.slice 149 (tyRange), .int .i64], res := [.int .i64], F := fun xs => laws_szRangeS xs.1 xs.2.1 }
theorem ok_laws_szRangeS : FnOK Try.prog glob e_laws_szRangeS := by
  refine FnOK.of (e := e_laws_szRangeS) (C := cfg [] [] [] []) (cfg_ok env_nil envL_nil envB_nil) Try.func59 (c := codeOf Try.f59) rfl Try.call59 (by decide)
    (.leaf) ?_ ?_
  · exact conds_leaf _ _
  · intro xs r h
    refine Eq.trans (Eq.symm ?_) h
    kernel_rfl
@[reducible] noncomputable def e_laws_szSender : FnE := { f := 44, args := [tySender, .int .i64], res := [.int .i64], F := fun xs => laws_szSender xs.1 xs.2.1 }
theorem ok_laws_szSender : FnOK Try.prog glob e_laws_szSender := by
  refine FnOK.of (e := e_laws_szSender) (C := cfg [] [e_laws_szRing, e_laws_szRangeS] [] []) (cfg_ok (env_cons ok_laws_szRing (env_cons ok_laws_szRangeS env_nil)) envL_nil envB_nil) Try.func44 (c := codeOf Try.f44) rfl Try.call44 (by decide)
    (.leaf) ?_ ?_
  · exact conds_leaf _ _
  · intro xs r h
    refine Eq.trans (Eq.symm ?_) h
    kernel_rfl
@[reducible] noncomputable def e_laws_szChunk : FnE := { f := 81, args := [tyChunk, .int .i64], res := [.int .i64], F := fun xs => laws_szChunk xs.1 xs.2.1 }
theorem ok_laws_szChunk : FnOK Try.prog glob e_laws_szChunk := by
  refine FnOK.of (e := e_laws_szChunk) (C := cfg [] [] [] []) (cfg_ok env_nil envL_nil envB_nil) Try.func81 (c := codeOf Try.f81) rfl Try.call81 (by decide)
    (.leaf) ?_ ?_
  · exact conds_leaf _ _
  · intro xs r h
    refine Eq.trans (Eq.symm ?_) h
    kernel_rfl
@[reducible] noncomputable def e_laws_szChunkS : FnE := { f := 74, args := [.slice 156 (tyChunk), .int .i64], res := [.int .i64], F := fun xs => laws_szChunkS xs.1 xs.2.1 }
theorem ok_laws_szChunkS : FnOK Try.prog glob e_laws_szChunkS := by
  refine FnOK.of (e := e_laws_szChunkS) (C := cfg [] [e_laws_szChunk] [] []) (cfg_ok (env_cons ok_laws_szChunk env_nil) envL_nil envB_nil) Try.func74 (c := codeOf Try.f74) rfl Try.call74 (by decide)
    ((.seq .leaf (.seq .leaf (.seq .leaf (.seq (.seq .leaf (.block (.loop laws_szChunkS_l1_p (fun N v => laws_szChunkS_l1 N v.1 v.2.1 v.2.2.1) (fun v => laws_szChunkS_l1_fuel v.1 v.2.1 v.2.2.1) (fun K1 => .leaf)))) .leaf))))) ?_ ?_
  · exact ⟨conds_leaf _ _, ⟨conds_leaf _ _, ⟨conds_leaf _ _, ⟨⟨conds_leaf _ _, ⟨fun _ => rfl, fun N => ⟨(fun v => by kernel_rfl), conds_leaf _ _⟩⟩⟩, conds_leaf _ _⟩⟩⟩⟩
  · intro xs r h
    refine Eq.trans (Eq.symm ?_) h
    kernel_rfl
@[reducible] noncomputable def e_laws_szBuffer : FnE := { f := 60, args := [tyBuffer, .int .i64], res := [.int .i64], F := fun xs => laws_szBuffer xs.1 xs.2.1 }
theorem ok_laws_szBuffer : FnOK Try.prog glob e_laws_szBuffer := by
  refine FnOK.of (e := e_laws_szBuffer) (C := cfg [] [e_laws_szChunkS] [] []) (cfg_ok (env_cons ok_laws_szChunkS env_nil) envL_nil envB_nil) Try.func60 (c := codeOf Try.f60) rfl Try.call60 (by decide)
    (.leaf) ?_ ?_
  · exact conds_leaf _ _
  · intro xs r h
    refine Eq.trans (Eq.symm ?_) h
    kernel_rfl
@[reducible] noncomputable def e_laws_szReceiver : FnE := { f := 45, args := [tyReceiver, .int .i64], res := [.int .i64], F := fun xs => laws_szReceiver xs.1 xs.2.1 }
theorem ok_laws_szReceiver : FnOK Try.prog glob e_laws_szReceiver := by
  refine FnOK.of (e := e_laws_szReceiver) (C := cfg [] [e_laws_szBuffer] [] []) (cfg_ok (env_cons ok_laws_szBuffer env_nil) envL_nil envB_nil) Try.func45 (c := codeOf Try.f45) rfl Try.call45 (by decide)
    (.leaf) ?_ ?_
  · exact conds_leaf _ _
  · intro xs r h
    refine Eq.trans (Eq.symm ?_) h
    kernel_rfl
@[reducible] noncomputable def e_laws_szStream : FnE := { f := 34, args := [tyStream, .int .i64], res := [.int .i64], F := fun xs => laws_szStream xs.1 xs.2.1 }
theorem ok_laws_szStream : FnOK Try.prog glob e_laws_szStream := by
  refine FnOK.of (e := e_laws_szStream) (C := cfg [] [e_laws_szSender, e_laws_szReceiver] [] []) (cfg_ok (env_cons ok_laws_szSender (env_cons ok_laws_szReceiver env_nil)) envL_nil envB_nil) Try.func34 (c := codeOf Try.f34) rfl Try.call34 (by decide)
    (.leaf) ?_ ?_
  · exact conds_leaf _ _
  · intro xs r h
    refine Eq.trans (Eq.symm ?_) h
    kernel_rfl
@[reducible] noncomputable def e_laws_szStreamS : FnE := { f := 12, args := [.slice 107 (tyStream), .int .i64], res := [.int .i64], F := fun xs => laws_szStreamS xs.1 xs.2.1 }
theorem ok_laws_szStreamS : FnOK Try.prog glob e_laws_szStreamS := by
  refine FnOK.of (e := e_laws_szStreamS) (C := cfg [] [e_laws_szStream] [] []) (cfg_ok (env_cons ok_laws_szStream env_nil) envL_nil envB_nil) Try.func12 (c := codeOf Try.f12) rfl Try.call12 (by decide)
    ((.seq .leaf (.seq .leaf (.seq .leaf (.seq (.seq .leaf (.block (.loop laws_szStreamS_l1_p (fun N v => laws_szStreamS_l1 N v.1 v.2.1 v.2.2.1) (fun v => laws_szStreamS_l1_fuel v.1 v.2.1 v.2.2.1) (fun K1 => .leaf)))) .leaf))))) ?_ ?_
  · exact ⟨conds_leaf _ _, ⟨conds_leaf _ _, ⟨conds_leaf _ _, ⟨⟨conds_leaf _ _, ⟨fun _ => rfl, fun N => ⟨(fun v => by kernel_rfl), conds_leaf _ _⟩⟩⟩, conds_leaf _ _⟩⟩⟩⟩
  · intro xs r h
    refine Eq.trans (Eq.symm ?_) h
    kernel_rfl
@[reducible] noncomputable def e_laws_szFrame : FnE := { f := 14, args := [tyFrame, .int .i64], res := [.int .i64], F := fun xs => laws_szFrame xs.1 xs.2.1 }
theorem ok_laws_szFrame : FnOK Try.prog glob e_laws_szFrame := by
  refine FnOK.of (e := e_laws_szFrame) (C := cfg [] [] [] []) (cfg_ok env_nil envL_nil envB_nil) Try.func14 (c := codeOf Try.f14) rfl Try.call14 (by decide)
    (.leaf) ?_ ?_
  · exact conds_leaf _ _
  · intro xs r h
    refine Eq.trans (Eq.symm ?_) h
    kernel_rfl
@[reducible] noncomputable def e_laws_szFrameS : FnE := { f := 5, args := [.slice 59 (tyFrame), .int .i64], res := [.int .i64], F := fun xs => laws_szFrameS xs.1 xs.2.1 }
theorem ok_laws_szFrameS : FnOK Try.prog glob e_laws_szFrameS := by
  refine FnOK.of (e := e_laws_szFrameS) (C := cfg [] [e_laws_szFrame] [] []) (cfg_ok (env_cons ok_laws_szFrame env_nil) envL_nil envB_nil) Try.func5 (c := codeOf Try.f5) rfl Try.call5 (by decide)
    ((.seq .leaf (.seq .leaf (.seq .leaf (.seq (.seq .leaf (.block (.loop laws_szFrameS_l1_p (fun N v => laws_szFrameS_l1 N v.1 v.2.1 v.2.2.1) (fun v => laws_szFrameS_l1_fuel v.1 v.2.1 v.2.2.1) (fun K1 => .leaf)))) .leaf))))) ?_ ?_
  · exact ⟨conds_leaf _ _, ⟨conds_leaf _ _, ⟨conds_leaf _ _, ⟨⟨conds_leaf _ _, ⟨fun _ => rfl, fun N => ⟨(fun v => by kernel_rfl), conds_leaf _ _⟩⟩⟩, conds_leaf _ _⟩⟩⟩⟩
  · intro xs r h
    refine Eq.trans (Eq.symm ?_) h
    kernel_rfl
@[reducible] noncomputable def e_laws_szPacket : FnE := { f := 35, args := [tyPacket, .int .i64], res := [.int .i64], F := fun xs => laws_szPacket xs.1 xs.2.1 }
theorem ok_laws_szPacket : FnOK Try.prog glob e_laws_szPacket := by
  refine FnOK.of (e := e_laws_szPacket) (C := cfg [] [e_laws_szFrameS] [] []) (cfg_ok (env_cons ok_laws_szFrameS env_nil) envL_nil envB_nil) Try.func35 (c := codeOf Try.f35) rfl Try.call35 (by decide)
    (.leaf) ?_ ?_
  · exact conds_leaf _ _
  · intro xs r h
    refine Eq.trans (Eq.symm ?_) h
    kernel_rfl
@[reducible] noncomputable def e_laws_szPacketS : FnE := { f := 13, args := [.slice 110 (tyPacket), .int .i64], res := [.int .i64], F := fun xs => laws_szPacketS xs.1 xs.2.1 }
theorem ok_laws_szPacketS : FnOK Try.prog glob e_laws_szPacketS := by
  refine FnOK.of (e := e_laws_szPacketS) (C := cfg [] [e_laws_szPacket] [] []) (cfg_ok (env_cons ok_laws_szPacket env_nil) envL_nil envB_nil) Try.func13 (c := codeOf Try.f13) rfl Try.call13 (by decide)
    ((.seq .leaf (.seq .leaf (.seq .leaf (.seq (.seq .leaf (.block (.loop laws_szPacketS_l1_p (fun N v => laws_szPacketS_l1 N v.1 v.2.1 v.2.2.1) (fun v => laws_szPacketS_l1_fuel v.1 v.2.1 v.2.2.1) (fun K1 => .leaf)))) .leaf))))) ?_ ?_
  · exact ⟨conds_leaf _ _, ⟨conds_leaf _ _, ⟨conds_leaf _ _, ⟨⟨conds_leaf _ _, ⟨fun _ => rfl, fun N => ⟨(fun v => by kernel_rfl), conds_leaf _ _⟩⟩⟩, conds_leaf _ _⟩⟩⟩⟩
  · intro xs r h
    refine Eq.trans (Eq.symm ?_) h
    kernel_rfl
@[reducible] noncomputable def e_laws_szConn : FnE := { f := 4, args := [tyConn, .int .i64], res := [.int .i64], F := fun xs => laws_szConn xs.1 xs.2.1 }
theorem ok_laws_szConn : FnOK Try.prog glob e_laws_szConn := by
  refine FnOK.of (e := e_laws_szConn) (C := cfg [] [e_laws_szStreamS, e_laws_szPacketS] [] []) (cfg_ok (env_cons ok_laws_szStreamS (env_cons ok_laws_szPacketS env_nil)) envL_nil envB_nil) Try.func4 (c := codeOf Try.f4) rfl Try.call4 (by decide)
    (.leaf) ?_ ?_
  · exact conds_leaf _ _
  · intro xs r h
    refine Eq.trans (Eq.symm ?_) h
    kernel_rfl
@[reducible] noncomputable def e_laws_toConf : FnE := { f := 16, args := [tyConf], res := [tyConf], F := fun xs => laws_toConf xs.1 }
theorem ok_laws_toConf : FnOK Try.prog glob e_laws_toConf := by
  refine FnOK.of (e := e_laws_toConf) (C := cfg [] [] [] []) (cfg_ok env_nil envL_nil envB_nil) Try.func16 (c := codeOf Try.f16) rfl Try.call16 (by decide)
    (.leaf) ?_ ?_
  · exact conds_leaf _ _
  · intro xs r h
    refine Eq.trans (Eq.symm ?_) h
    kernel_rfl
@[reducible] noncomputable def e_laws_toIntS : FnE := { f := 75, args := [.slice 3 (.int .i64)], res := [.slice 3 (.int .i64)], F := fun xs => laws_toIntS xs.1 }
theorem ok_laws_toIntS : FnOK Try.prog glob e_laws_toIntS := by
  refine FnOK.of (e := e_laws_toIntS) (C := cfg [] [] [] []) (cfg_ok env_nil envL_nil envB_nil) Try.func75 (c := codeOf Try.f75) rfl Try.call75 (by decide)
    ((.seq .leaf (.seq .leaf (.seq (.seq .leaf (.block (.loop laws_toIntS_l1_p (fun N v => laws_toIntS_l1 N v.1 v.2.1 v.2.2.1) (fun v => laws_toIntS_l1_fuel v.1 v.2.1 v.2.2.1) (fun K1 => .leaf)))) .leaf)))) ?_ ?_
  · exact ⟨conds_leaf _ _, ⟨conds_leaf _ _, ⟨⟨conds_leaf _ _, ⟨fun _ => rfl, fun N => ⟨(fun v => by kernel_rfl), conds_leaf _ _⟩⟩⟩, conds_leaf _ _⟩⟩⟩
  · intro xs r h
    refine Eq.trans (Eq.symm ?_) h
    kernel_rfl
@[reducible] noncomputable def e_laws_toRing : FnE := { f := 64, args := [tyRing], res := [tyRing], F := fun xs => laws_toRing xs.1 }
theorem ok_laws_toRing : FnOK Try.prog glob e_laws_toRing := by
  refine FnOK.of (e := e_laws_toRing) (C := cfg [] [e_laws_toIntS] [] []) (cfg_ok (env_cons ok_laws_toIntS env_nil) envL_nil envB_nil) Try.func64 (c := codeOf Try.f64) rfl Try.call64 (by decide)
    (.leaf) ?_ ?_
  · exact conds_leaf _ _
  · intro xs r h
    refine Eq.trans (Eq.symm ?_) h
    kernel_rfl
@[reducible] noncomputable def e_laws_toRange : FnE := { f := 76, args := [tyRange], res := [tyRange], F := fun xs => laws_toRange xs.1 }
theorem ok_laws_toRange : FnOK Try.prog glob e_laws_toRange := by
  refine FnOK.of (e := e_laws_toRange) (C := cfg [] [] [] []) (cfg_ok env_nil envL_nil envB_nil) Try.func76 (c := codeOf Try.f76) rfl Try.call76 (by decide)
    (.leaf) ?_ ?_
  · exact conds_leaf _ _
  · intro xs r h
    refine Eq.trans (Eq.symm ?_) h
    kernel_rfl
@[reducible] noncomputable def e_laws_toRangeS : FnE := { f := 65, args := [.slice 149 (tyRange)], res := [.slice 147 (tyRange)], F := fun xs => laws_toRangeS xs.1 }
theorem ok_laws_toRangeS : FnOK Try.prog glob e_laws_toRangeS := by
  refine FnOK.of (e := e_laws_toRangeS) (C := cfg [] [e_laws_toRange] [] []) (cfg_ok (env_cons ok_laws_toRange env_nil) envL_nil envB_nil) Try.func65 (c := codeOf Try.f65) rfl Try.call65 (by decide)
    ((.seq .leaf (.seq .leaf (.seq (.seq .leaf (.block (.loop laws_toRangeS_l1_p (fun N v => laws_toRangeS_l1 N v.1 v.2.1 v.2.2.1) (fun v => laws_toRangeS_l1_fuel v.1 v.2.1 v.2.2.1) (fun K1 => .leaf)))) .leaf)))) ?_ ?_
  · exact ⟨conds_leaf _ _, ⟨conds_leaf _ _, ⟨⟨conds_leaf _ _, ⟨fun _ => rfl, fun N => ⟨(fun v => by kernel_rfl), conds_leaf _ _⟩⟩⟩, conds_leaf _ _⟩⟩⟩
  · intro xs r h
    refine Eq.trans (Eq.symm ?_) h
    kernel_rfl
@[reducible] noncomputable def e_laws_toSender : FnE := { f := 48, args := [tySender], res := [tySenderx], F := fun xs => laws_toSender xs.1 }
theorem ok_laws_toSender : FnOK Try.prog glob e_laws_toSender := by
  refine FnOK.of (e := e_laws_toSender) (C := cfg [] [e_laws_toRing, e_laws_toRangeS] [] []) (cfg_ok (env_cons ok_laws_toRing (env_cons ok_laws_toRangeS env_nil)) envL_nil envB_nil) Try.func48 (c := codeOf Try.f48) rfl Try.call48 (by decide)
    (.leaf) ?_ ?_
  · exact conds_leaf _ _
  · intro xs r h
    refine Eq.trans (Eq.symm ?_) h
    kernel_rfl
@[reducible] noncomputable def e_laws_toCredit : FnE := { f := 18, args := [tyAllow], res := [tyAllow], F := fun xs => laws_toCredit xs.1 }
theorem ok_laws_toCredit : FnOK Try.prog glob e_laws_toCredit := by
  refine FnOK.of (e := e_laws_toCredit) (C := cfg [] [] [] []) (cfg_ok env_nil envL_nil envB_nil) Try.func18 (c := codeOf Try.f18) rfl Try.call18 (by decide)
    (.leaf) ?_ ?_
  · exact conds_leaf _ _
  · intro xs r h
    refine Eq.trans (Eq.symm ?_) h
    kernel_rfl
@[reducible] noncomputable def e_laws_toChunk : FnE := { f := 82, args := [tyChunk], res := [tyChunk], F := fun xs => laws_toChunk xs.1 }
theorem ok_laws_toChunk : FnOK Try.prog glob e_laws_toChunk := by
  refine FnOK.of (e := e_laws_toChunk) (C := cfg [] [] [] []) (cfg_ok env_nil envL_nil envB_nil) Try.func82 (c := codeOf Try.f82) rfl Try.call82 (by decide)
    (.leaf) ?_ ?_
  · exact conds_leaf _ _
  · intro xs r h
    refine Eq.trans (Eq.symm ?_) h
    kernel_rfl
@[reducible] noncomputable def e_laws_toChunkS : FnE := { f := 77, args := [.slice 156 (tyChunk)], res := [.slice 157 (tyChunk)], F := fun xs => laws_toChunkS xs.1 }
theorem ok_laws_toChunkS : FnOK Try.prog glob e_laws_toChunkS := by
  refine FnOK.of (e := e_laws_toChunkS) (C := cfg [] [e_laws_toChunk] [] []) (cfg_ok (env_cons ok_laws_toChunk env_nil) envL_nil envB_nil) Try.func77 (c := codeOf Try.f77) rfl Try.call77 (by decide)
    ((.seq .leaf (.seq .leaf (.seq (.seq .leaf (.block (.loop laws_toChunkS_l1_p (fun N v => laws_toChunkS_l1 N v.1 v.2.1 v.2.2.1) (fun v => laws_toChunkS_l1_fuel v.1 v.2.1 v.2.2.1) (fun K1 => .leaf)))) .leaf)))) ?_ ?_
  · exact ⟨conds_leaf _ _, ⟨conds_leaf _ _, ⟨⟨conds_leaf _ _, ⟨fun _ => rfl, fun N => ⟨(fun v => by kernel_rfl), conds_leaf _ _⟩⟩⟩, conds_leaf _ _⟩⟩⟩
  · intro xs r h
    refine Eq.trans (Eq.symm ?_) h
    kernel_rfl
@[reducible] noncomputable def e_laws_toBuffer : FnE := { f := 66, args := [tyBuffer], res := [tyBufferx], F := fun xs => laws_toBuffer xs.1 }
theorem ok_laws_toBuffer : FnOK Try.prog glob e_laws_toBuffer := by
  refine FnOK.of (e := e_laws_toBuffer) (C := cfg [] [e_laws_toChunkS] [] []) (cfg_ok (env_cons ok_laws_toChunkS env_nil) envL_nil envB_nil) Try.func66 (c := codeOf Try.f66) rfl Try.call66 (by decide)
    (.leaf) ?_ ?_
  · exact conds_leaf _ _
  · intro xs r h
    refine Eq.trans (Eq.symm ?_) h
    kernel_rfl
@[reducible] noncomputable def e_laws_toReceiver : FnE := { f := 49, args := [tyReceiver], res := [tyReceiverx], F := fun xs => laws_toReceiver xs.1 }
theorem ok_laws_toReceiver : FnOK Try.prog glob e_laws_toReceiver := by
  refine FnOK.of (e := e_laws_toReceiver) (C := cfg [] [e_laws_toBuffer] [] []) (cfg_ok (env_cons ok_laws_toBuffer env_nil) envL_nil envB_nil) Try.func49 (c := codeOf Try.f49) rfl Try.call49 (by decide)
    (.leaf) ?_ ?_
  · exact conds_leaf _ _
  · intro xs r h
    refine Eq.trans (Eq.symm ?_) h
    kernel_rfl
@[reducible] noncomputable def e_laws_toWindow : FnE := { f := 19, args := [tyWindow], res := [tyWindow], F := fun xs => laws_toWindow xs.1 }
theorem ok_laws_toWindow : FnOK Try.prog glob e_laws_toWindow := by
  refine FnOK.of (e := e_laws_toWindow) (C := cfg [] [] [] []) (cfg_ok env_nil envL_nil envB_nil) Try.func19 (c := codeOf Try.f19) rfl Try.call19 (by decide)
    (.leaf) ?_ ?_
  · exact conds_leaf _ _
  · intro xs r h
    refine Eq.trans (Eq.symm ?_) h
    kernel_rfl
@[reducible] noncomputable def e_laws_toPriority : FnE := { f := 50, args := [tyPriority], res := [tyPriority], F := fun xs => laws_toPriority xs.1 }
theorem ok_laws_toPriority : FnOK Try.prog glob e_laws_toPriority := by
  refine FnOK.of (e := e_laws_toPriority) (C := cfg [] [] [] []) (cfg_ok env_nil envL_nil envB_nil) Try.func50 (c := codeOf Try.f50) rfl Try.call50 (by decide)
    (.leaf) ?_ ?_
  · exact conds_leaf _ _
  · intro xs r h
    refine Eq.trans (Eq.symm ?_) h
    kernel_rfl
@[reducible] noncomputable def e_laws_toStream : FnE := { f := 38, args := [tyStream], res := [tyStreamx], F := fun xs => laws_toStream xs.1 }
theorem ok_laws_toStream : FnOK Try.prog glob e_laws_toStream := by
  refine FnOK.of (e := e_laws_toStream) (C := cfg [] [e_laws_toSender, e_laws_toCredit, e_laws_toReceiver, e_laws_toWindow, e_laws_toPriority] [] []) (cfg_ok (env_cons ok_laws_toSender (env_cons ok_laws_toCredit (env_cons ok_laws_toReceiver (env_cons ok_laws_toWindow (env_cons ok_laws_toPriority env_nil))))) envL_nil envB_nil) Try.func38 (c := codeOf Try.f38) rfl Try.call38 (by decide)
    (.leaf) ?_ ?_
  · exact conds_leaf _ _
  · intro xs r h
    refine Eq.trans (Eq.symm ?_) h
    kernel_rfl
@[reducible] noncomputable def e_laws_toStreamS : FnE := { f := 17, args := [.slice 107 (tyStream)], res := [.slice 75 (tyStreamx)], F := fun xs => laws_toStreamS xs.1 }
theorem ok_laws_toStreamS : FnOK Try.prog glob e_laws_toStreamS := by
  refine FnOK.of (e := e_laws_toStreamS) (C := cfg [] [e_laws_toStream] [] []) (cfg_ok (env_cons ok_laws_toStream env_nil) envL_nil envB_nil) Try.func17 (c := codeOf Try.f17) rfl Try.call17 (by decide)
    ((.seq .leaf (.seq .leaf (.seq (.seq .leaf (.block (.loop laws_toStreamS_l1_p (fun N v => laws_toStreamS_l1 N v.1 v.2.1 v.2.2.1) (fun v => laws_toStreamS_l1_fuel v.1 v.2.1 v.2.2.1) (fun K1 => .leaf)))) .leaf)))) ?_ ?_
  · exact ⟨conds_leaf _ _, ⟨conds_leaf _ _, ⟨⟨conds_leaf _ _, ⟨fun _ => rfl, fun N => ⟨(fun v => by kernel_rfl), conds_leaf _ _⟩⟩⟩, conds_leaf _ _⟩⟩⟩
  · intro xs r h
    refine Eq.trans (Eq.symm ?_) h
    kernel_rfl
@[reducible] noncomputable def e_laws_toCount : FnE := { f := 20, args := [tyCount], res := [tyCount], F := fun xs => laws_toCount xs.1 }
theorem ok_laws_toCount : FnOK Try.prog glob e_laws_toCount := by
  refine FnOK.of (e := e_laws_toCount) (C := cfg [] [] [] []) (cfg_ok env_nil envL_nil envB_nil) Try.func20 (c := codeOf Try.f20) rfl Try.call20 (by decide)
    (.leaf) ?_ ?_
  · exact conds_leaf _ _
  · intro xs r h
    refine Eq.trans (Eq.symm ?_) h
    kernel_rfl
@[reducible] noncomputable def e_laws_toAllow : FnE := { f := 21, args := [tyAllow], res := [tyAllow], F := fun xs => laws_toAllow xs.1 }
theorem ok_laws_toAllow : FnOK Try.prog glob e_laws_toAllow := by
  refine FnOK.of (e := e_laws_toAllow) (C := cfg [] [] [] []) (cfg_ok env_nil envL_nil envB_nil) Try.func21 (c := codeOf Try.f21) rfl Try.call21 (by decide)
    (.leaf) ?_ ?_
  · exact conds_leaf _ _
  · intro xs r h
    refine Eq.trans (Eq.symm ?_) h
    kernel_rfl
@[reducible] noncomputable def e_laws_toFrame : FnE := { f := 23, args := [tyFrame], res := [tyFrame], F := fun xs => laws_toFrame xs.1 }
theorem ok_laws_toFrame : FnOK Try.prog glob e_laws_toFrame := by
  refine FnOK.of (e := e_laws_toFrame) (C := cfg [] [] [] []) (cfg_ok env_nil envL_nil envB_nil) Try.func23 (c := codeOf Try.f23) rfl Try.call23 (by decide)
    (.leaf) ?_ ?_
  · exact conds_leaf _ _
  · intro xs r h
    refine Eq.trans (Eq.symm ?_) h
    kernel_rfl
@[reducible] noncomputable def e_laws_toFrameS : FnE := { f := 8, args := [.slice 59 (tyFrame)], res := [.slice 60 (tyFrame)], F := fun xs => laws_toFrameS xs.1 }
theorem ok_laws_toFrameS : FnOK Try.prog glob e_laws_toFrameS := by
  refine FnOK.of (e := e_laws_toFrameS) (C := cfg [] [e_laws_toFrame] [] []) (cfg_ok (env_cons ok_laws_toFrame env_nil) envL_nil envB_nil) Try.func8 (c := codeOf Try.f8) rfl Try.call8 (by decide)
    ((.seq .leaf (.seq .leaf (.seq (.seq .leaf (.block (.loop laws_toFrameS_l1_p (fun N v => laws_toFrameS_l1 N v.1 v.2.1 v.2.2.1) (fun v => laws_toFrameS_l1_fuel v.1 v.2.1 v.2.2.1) (fun K1 => .leaf)))) .leaf)))) ?_ ?_
  · exact ⟨conds_leaf _ _, ⟨conds_leaf _ _, ⟨⟨conds_leaf _ _, ⟨fun _ => rfl, fun N => ⟨(fun v => by kernel_rfl), conds_leaf _ _⟩⟩⟩, conds_leaf _ _⟩⟩⟩
  · intro xs r h
    refine Eq.trans (Eq.symm ?_) h
    kernel_rfl
@[reducible] noncomputable def e_laws_toPacket : FnE := { f := 39, args := [tyPacket], res := [tyPacketx], F := fun xs => laws_toPacket xs.1 }
theorem ok_laws_toPacket : FnOK Try.prog glob e_laws_toPacket := by
  refine FnOK.of (e := e_laws_toPacket) (C := cfg [] [e_laws_toFrameS] [] []) (cfg_ok (env_cons ok_laws_toFrameS env_nil) envL_nil envB_nil) Try.func39 (c := codeOf Try.f39) rfl Try.call39 (by decide)
    (.leaf) ?_ ?_
  · exact conds_leaf _ _
  · intro xs r h
    refine Eq.trans (Eq.symm ?_) h
    kernel_rfl
@[reducible] noncomputable def e_laws_toPacketS : FnE := { f := 22, args := [.slice 110 (tyPacket)], res := [.slice 115 (tyPacketx)], F := fun xs => laws_toPacketS xs.1 }
theorem ok_laws_toPacketS : FnOK Try.prog glob e_laws_toPacketS := by
  refine FnOK.of (e := e_laws_toPacketS) (C := cfg [] [e_laws_toPacket] [] []) (cfg_ok (env_cons ok_laws_toPacket env_nil) envL_nil envB_nil) Try.func22 (c := codeOf Try.f22) rfl Try.call22 (by decide)
    ((.seq .leaf (.seq .leaf (.seq (.seq .leaf (.block (.loop laws_toPacketS_l1_p (fun N v => laws_toPacketS_l1 N v.1 v.2.1 v.2.2.1) (fun v => laws_toPacketS_l1_fuel v.1 v.2.1 v.2.2.1) (fun K1 => .leaf)))) .leaf)))) ?_ ?_
  · exact ⟨conds_leaf _ _, ⟨conds_leaf _ _, ⟨⟨conds_leaf _ _, ⟨fun _ => rfl, fun N => ⟨(fun v => by kernel_rfl), conds_leaf _ _⟩⟩⟩, conds_leaf _ _⟩⟩⟩
  · intro xs r h
    refine Eq.trans (Eq.symm ?_) h
    kernel_rfl
@[reducible] noncomputable def e_laws_toConn : FnE := { f := 7, args := [tyConn], res := [tyConnx], F := fun xs => laws_toConn xs.1 }
theorem ok_laws_toConn : FnOK Try.prog glob e_laws_toConn := by
  refine FnOK.of (e := e_laws_toConn) (C := cfg [] [e_laws_toConf, e_laws_toStreamS, e_laws_toCredit, e_laws_toWindow, e_laws_toCount, e_laws_toAllow, e_laws_toPacketS] [] []) (cfg_ok (env_cons ok_laws_toConf (env_cons ok_laws_toStreamS (env_cons ok_laws_toCredit (env_cons ok_laws_toWindow (env_cons ok_laws_toCount (env_cons ok_laws_toAllow (env_cons ok_laws_toPacketS env_nil))))))) envL_nil envB_nil) Try.func7 (c := codeOf Try.f7) rfl Try.call7 (by decide)
    (.leaf) ?_ ?_
  · exact conds_leaf _ _
  · intro xs r h
    refine Eq.trans (Eq.symm ?_) h
    kernel_rfl
@[reducible] noncomputable def e_spec_FindStream : FnE := { f := 36, args := [.slice 75 (tyStreamx), .int .i64], res := [.int .i64], F := fun xs => spec_FindStream xs.1 xs.2.1 }
theorem ok_spec_FindStream : FnOK Try.prog glob e_spec_FindStream := by
  refine FnOK.of (e := e_spec_FindStream) (C := cfg [] [] [] []) (cfg_ok env_nil envL_nil envB_nil) Try.func36 (c := codeOf Try.f36) rfl Try.call36 (by decide)
    ((.seq .leaf (.seq (.seq .leaf (.block (.loop spec_FindStream_l1_p (fun N v => spec_FindStream_l1 N v.1 v.2.1 v.2.2.1) (fun v => spec_FindStream_l1_fuel v.1 v.2.1 v.2.2.1) (fun K1 => .leaf)))) .leaf))) ?_ ?_
  · exact ⟨conds_leaf _ _, ⟨⟨conds_leaf _ _, ⟨fun _ => rfl, fun N => ⟨(fun v => by kernel_rfl), conds_leaf _ _⟩⟩⟩, conds_leaf _ _⟩⟩
  · intro xs r h
    refine Eq.trans (Eq.symm ?_) h
    kernel_rfl
@[reducible] noncomputable def e_spec_l8Copy : FnE := { f := 61, args := [tyRing], res := [tyRing], F := fun xs => spec_l8Copy xs.1 }
theorem ok_spec_l8Copy : FnOK Try.prog glob e_spec_l8Copy := by
  refine FnOK.of (e := e_spec_l8Copy) (C := cfg [] [] [] []) (cfg_ok env_nil envL_nil envB_nil) Try.func61 (c := codeOf Try.f61) rfl Try.call61 (by decide)
    (.leaf) ?_ ?_
  · exact conds_leaf _ _
  · intro xs r h
    refine Eq.trans (Eq.symm ?_) h
    kernel_rfl
@[reducible] noncomputable def e_spec_l3Copy : FnE := { f := 62, args := [.slice 147 (tyRange)], res := [.slice 147 (tyRange)], F := fun xs => spec_l3Copy xs.1 }
theorem ok_spec_l3Copy : FnOK Try.prog glob e_spec_l3Copy := by
  refine FnOK.of (e := e_spec_l3Copy) (C := cfg [] [] [] []) (cfg_ok env_nil envL_nil envB_nil) Try.func62 (c := codeOf Try.f62) rfl Try.call62 (by decide)
    (.leaf) ?_ ?_
  · exact conds_leaf _ _
  · intro xs r h
    refine Eq.trans (Eq.symm ?_) h
    kernel_rfl
@[reducible] noncomputable def e_spec_l9Copy : FnE := { f := 46, args := [tySenderx], res := [tySenderx], F := fun xs => spec_l9Copy xs.1 }
theorem ok_spec_l9Copy : FnOK Try.prog glob e_spec_l9Copy := by
  refine FnOK.of (e := e_spec_l9Copy) (C := cfg [] [e_spec_l8Copy, e_spec_l3Copy] [] []) (cfg_ok (env_cons ok_spec_l8Copy (env_cons ok_spec_l3Copy env_nil)) envL_nil envB_nil) Try.func46 (c := codeOf Try.f46) rfl Try.call46 (by decide)
    (.leaf) ?_ ?_
  · exact conds_leaf _ _
  · intro xs r h
    refine Eq.trans (Eq.symm ?_) h
    kernel_rfl
@[reducible] noncomputable def e_spec_l6Copy : FnE := { f := 63, args := [tyBufferx], res := [tyBufferx], F := fun xs => spec_l6Copy xs.1 }
theorem ok_spec_l6Copy : FnOK Try.prog glob e_spec_l6Copy := by
  refine FnOK.of (e := e_spec_l6Copy) (C := cfg [] [] [] []) (cfg_ok env_nil envL_nil envB_nil) Try.func63 (c := codeOf Try.f63) rfl Try.call63 (by decide)
    (.leaf) ?_ ?_
  · exact conds_leaf _ _
  · intro xs r h
    refine Eq.trans (Eq.symm ?_) h
    kernel_rfl
@[reducible] noncomputable def e_spec_l7Copy : FnE := { f := 47, args := [tyReceiverx], res := [tyReceiverx], F := fun xs => spec_l7Copy xs.1 }
theorem ok_spec_l7Copy : FnOK Try.prog glob e_spec_l7Copy := by
  refine FnOK.of (e := e_spec_l7Copy) (C := cfg [] [e_spec_l6Copy] [] []) (cfg_ok (env_cons ok_spec_l6Copy env_nil) envL_nil envB_nil) Try.func47 (c := codeOf Try.f47) rfl Try.call47 (by decide)
    (.leaf) ?_ ?_
  · exact conds_leaf _ _
  · intro xs r h
    refine Eq.trans (Eq.symm ?_) h
    kernel_rfl
@[reducible] noncomputable def e_spec_l15Copy : FnE := { f := 37, args := [tyStreamx], res := [tyStreamx], F := fun xs => spec_l15Copy xs.1 }
theorem ok_spec_l15Copy : FnOK Try.prog glob e_spec_l15Copy := by
  refine FnOK.of (e := e_spec_l15Copy) (C := cfg [] [e_spec_l9Copy, e_spec_l7Copy] [] []) (cfg_ok (env_cons ok_spec_l9Copy (env_cons ok_spec_l7Copy env_nil)) envL_nil envB_nil) Try.func37 (c := codeOf Try.f37) rfl Try.call37 (by decide)
    (.leaf) ?_ ?_
  · exact conds_leaf _ _
  · intro xs r h
    refine Eq.trans (Eq.symm ?_) h
    kernel_rfl
@[reducible] noncomputable def e_spec_StreamOf : FnE := { f := 15, args := [tyConnx, .int .i64], res := [tyStreamx, .bool], F := fun xs => spec_StreamOf xs.1 xs.2.1 }
theorem ok_spec_StreamOf : FnOK Try.prog glob e_spec_StreamOf := by
  refine FnOK.of (e := e_spec_StreamOf) (C := cfg [] [e_spec_FindStream, e_spec_l15Copy] [] []) (cfg_ok (env_cons ok_spec_FindStream (env_cons ok_spec_l15Copy env_nil)) envL_nil envB_nil) Try.func15 (c := codeOf Try.f15) rfl Try.call15 (by decide)
    (.leaf) ?_ ?_
  · exact conds_leaf _ _
  · intro xs r h
    refine Eq.trans (Eq.symm ?_) h
    kernel_rfl
@[reducible] noncomputable def e_spec_IsUrgentFirst : FnE := { f := 6, args := [tyConnx, .slice 60 (tyFrame)], res := [.bool], F := fun xs => spec_IsUrgentFirst xs.1 xs.2.1 }
theorem ok_spec_IsUrgentFirst : FnOK Try.prog glob e_spec_IsUrgentFirst := by
  refine FnOK.of (e := e_spec_IsUrgentFirst) (C := cfg [] [e_spec_StreamOf] [] []) (cfg_ok (env_cons ok_spec_StreamOf env_nil) envL_nil envB_nil) Try.func6 (c := codeOf Try.f6) rfl Try.call6 (by decide)
    ((.seq .leaf (.seq .leaf (.seq (.seq .leaf (.block (.loop spec_IsUrgentFirst_l1_p (fun N v => spec_IsUrgentFirst_l1 N v.1 v.2.1 v.2.2.1 v.2.2.2.1) (fun v => spec_IsUrgentFirst_l1_fuel v.1 v.2.1 v.2.2.1 v.2.2.2.1) (fun K1 => (.seq .leaf (.join spec_IsUrgentFirst_j1_p (fun v => spec_IsUrgentFirst_j1 K1 v.1 v.2.1 v.2.2.1 v.2.2.2.1) (.block (.seq .leaf (.join spec_IsUrgentFirst_j2_p (fun v => spec_IsUrgentFirst_j2 K1 v.1 v.2.1 v.2.2.1 v.2.2.2.1 v.2.2.2.2.1 v.2.2.2.2.2.1) .leaf .leaf))) .leaf)))))) .leaf)))) ?_ ?_
  · exact ⟨conds_leaf _ _, ⟨conds_leaf _ _, ⟨⟨conds_leaf _ _, ⟨fun _ => rfl, fun N => ⟨(fun v => by kernel_rfl), ⟨conds_leaf _ _, ⟨⟨conds_leaf _ _, ⟨conds_leaf _ _, (fun v => by kernel_rfl), conds_leaf _ _⟩⟩, (fun v => by kernel_rfl), conds_leaf _ _⟩⟩⟩⟩⟩, conds_leaf _ _⟩⟩⟩
  · intro xs r h
    refine Eq.trans (Eq.symm ?_) h
    kernel_rfl
@[reducible] noncomputable def e_impl_OrderOf : FnE := { f := 24, args := [.slice 60 (tyFrame)], res := [.slice 3 (.int .i64)], F := fun xs => impl_OrderOf xs.1 }
theorem ok_impl_OrderOf : FnOK Try.prog glob e_impl_OrderOf := by
  refine FnOK.of (e := e_impl_OrderOf) (C := cfg [] [] [] []) (cfg_ok env_nil envL_nil envB_nil) Try.func24 (c := codeOf Try.f24) rfl Try.call24 (by decide)
    ((.seq .leaf (.seq .leaf (.seq (.seq .leaf (.block (.loop impl_OrderOf_l1_p (fun N v => impl_OrderOf_l1 N v.1 v.2.1 v.2.2.1 v.2.2.2.1) (fun v => impl_OrderOf_l1_fuel v.1 v.2.1 v.2.2.1 v.2.2.2.1) (fun K1 => .leaf)))) .leaf)))) ?_ ?_
  · exact ⟨conds_leaf _ _, ⟨conds_leaf _ _, ⟨⟨conds_leaf _ _, ⟨fun _ => rfl, fun N => ⟨(fun v => by kernel_rfl), conds_leaf _ _⟩⟩⟩, conds_leaf _ _⟩⟩⟩
  · intro xs r h
    refine Eq.trans (Eq.symm ?_) h
    kernel_rfl
@[reducible] noncomputable def e_impl_FindStream_1 : FnE := { f := 52, args := [tyStreamx, .sptr 3 (.int .i64)], res := [.bool], F := fun xs => impl_FindStream_1 xs.1 xs.2.1 }
theorem ok_impl_FindStream_1 : FnOK Try.prog glob e_impl_FindStream_1 := by
  refine FnOK.of (e := e_impl_FindStream_1) (C := cfg [] [] [] []) (cfg_ok env_nil envL_nil envB_nil) Try.func52 (c := codeOf Try.f52) rfl Try.call52 (by decide)
    (.leaf) ?_ ?_
  · exact conds_leaf _ _
  · intro xs r h
    refine Eq.trans (Eq.symm ?_) h
    kernel_rfl
@[reducible] noncomputable def e_slices_IndexFunc_impl_Stream_impl_Stream_impl_FindStream_1 : FnE := { f := 51, args := [.slice 75 (tyStreamx), .clo 52 (.pair (.sptr 3 (.int .i64)) (.unit))], res := [.int .i64], F := fun xs => slices_IndexFunc_impl_Stream_impl_Stream_impl_FindStream_1 xs.1 xs.2.1 }
theorem ok_slices_IndexFunc_impl_Stream_impl_Stream_impl_FindStream_1 : FnOK Try.prog glob e_slices_IndexFunc_impl_Stream_impl_Stream_impl_FindStream_1 := by
  refine FnOK.of (e := e_slices_IndexFunc_impl_Stream_impl_Stream_impl_FindStream_1) (C := cfg [] [e_impl_FindStream_1] [] []) (cfg_ok (env_cons ok_impl_FindStream_1 env_nil) envL_nil envB_nil) Try.func51 (c := codeOf Try.f51) rfl Try.call51 (by decide)
    ((.seq .leaf (.seq (.seq .leaf (.block (.loop slices_IndexFunc_impl_Stream_impl_Stream_impl_FindStream_1_l1_p (fun N v => slices_IndexFunc_impl_Stream_impl_Stream_impl_FindStream_1_l1 N v.1 v.2.1 v.2.2.1 v.2.2.2.1) (fun v => slices_IndexFunc_impl_Stream_impl_Stream_impl_FindStream_1_l1_fuel v.1 v.2.1 v.2.2.1 v.2.2.2.1) (fun K1 => .leaf)))) .leaf))) ?_ ?_
  · exact ⟨conds_leaf _ _, ⟨⟨conds_leaf _ _, ⟨fun _ => rfl, fun N => ⟨(fun v => by kernel_rfl), conds_leaf _ _⟩⟩⟩, conds_leaf _ _⟩⟩
  · intro xs r h
    refine Eq.trans (Eq.symm ?_) h
    kernel_rfl
@[reducible] noncomputable def e_impl_FindStream : FnE := { f := 40, args := [.slice 75 (tyStreamx), .int .i64], res := [.int .i64], F := fun xs => impl_FindStream xs.1 xs.2.1 }
theorem ok_impl_FindStream : FnOK Try.prog glob e_impl_FindStream := by
  refine FnOK.of (e := e_impl_FindStream) (C := cfg [] [e_slices_IndexFunc_impl_Stream_impl_Stream_impl_FindStream_1] [] []) (cfg_ok (env_cons ok_slices_IndexFunc_impl_Stream_impl_Stream_impl_FindStream_1 env_nil) envL_nil envB_nil) Try.func40 (c := codeOf Try.f40) rfl Try.call40 (by decide)
    (.leaf) ?_ ?_
  · exact conds_leaf _ _
  · intro xs r h
    refine Eq.trans (Eq.symm ?_) h
    kernel_rfl
@[reducible] noncomputable def e_impl_copyRing : FnE := { f := 67, args := [tyRing], res := [tyRing], F := fun xs => impl_copyRing xs.1 }
theorem ok_impl_copyRing : FnOK Try.prog glob e_impl_copyRing := by
  refine FnOK.of (e := e_impl_copyRing) (C := cfg [] [] [] []) (cfg_ok env_nil envL_nil envB_nil) Try.func67 (c := codeOf Try.f67) rfl Try.call67 (by decide)
    (.leaf) ?_ ?_
  · exact conds_leaf _ _
  · intro xs r h
    refine Eq.trans (Eq.symm ?_) h
    kernel_rfl
@[reducible] noncomputable def e_impl_copyRanges : FnE := { f := 68, args := [.slice 147 (tyRange)], res := [.slice 147 (tyRange)], F := fun xs => impl_copyRanges xs.1 }
theorem ok_impl_copyRanges : FnOK Try.prog glob e_impl_copyRanges := by
  refine FnOK.of (e := e_impl_copyRanges) (C := cfg [] [] [] []) (cfg_ok env_nil envL_nil envB_nil) Try.func68 (c := codeOf Try.f68) rfl Try.call68 (by decide)
    (.leaf) ?_ ?_
  · exact conds_leaf _ _
  · intro xs r h
    refine Eq.trans (Eq.symm ?_) h
    kernel_rfl
@[reducible] noncomputable def e_impl_copySender : FnE := { f := 53, args := [tySenderx], res := [tySenderx], F := fun xs => impl_copySender xs.1 }
theorem ok_impl_copySender : FnOK Try.prog glob e_impl_copySender := by
  refine FnOK.of (e := e_impl_copySender) (C := cfg [] [e_impl_copyRing, e_impl_copyRanges] [] []) (cfg_ok (env_cons ok_impl_copyRing (env_cons ok_impl_copyRanges env_nil)) envL_nil envB_nil) Try.func53 (c := codeOf Try.f53) rfl Try.call53 (by decide)
    (.leaf) ?_ ?_
  · exact conds_leaf _ _
  · intro xs r h
    refine Eq.trans (Eq.symm ?_) h
    kernel_rfl
@[reducible] noncomputable def e_impl_copyBuffer : FnE := { f := 69, args := [tyBufferx], res := [tyBufferx], F := fun xs => impl_copyBuffer xs.1 }
theorem ok_impl_copyBuffer : FnOK Try.prog glob e_impl_copyBuffer := by
  refine FnOK.of (e := e_impl_copyBuffer) (C := cfg [] [] [] []) (cfg_ok env_nil envL_nil envB_nil) Try.func69 (c := codeOf Try.f69) rfl Try.call69 (by decide)
    (.leaf) ?_ ?_
  · exact conds_leaf _ _
  · intro xs r h
    refine Eq.trans (Eq.symm ?_) h
    kernel_rfl
@[reducible] noncomputable def e_impl_copyReceiver : FnE := { f := 54, args := [tyReceiverx], res := [tyReceiverx], F := fun xs => impl_copyReceiver xs.1 }
theorem ok_impl_copyReceiver : FnOK Try.prog glob e_impl_copyReceiver := by
  refine FnOK.of (e := e_impl_copyReceiver) (C := cfg [] [e_impl_copyBuffer] [] []) (cfg_ok (env_cons ok_impl_copyBuffer env_nil) envL_nil envB_nil) Try.func54 (c := codeOf Try.f54) rfl Try.call54 (by decide)
    (.leaf) ?_ ?_
  · exact conds_leaf _ _
  · intro xs r h
    refine Eq.trans (Eq.symm ?_) h
    kernel_rfl
@[reducible] noncomputable def e_impl_copyStream : FnE := { f := 41, args := [tyStreamx], res := [tyStreamx], F := fun xs => impl_copyStream xs.1 }
theorem ok_impl_copyStream : FnOK Try.prog glob e_impl_copyStream := by
  refine FnOK.of (e := e_impl_copyStream) (C := cfg [] [e_impl_copySender, e_impl_copyReceiver] [] []) (cfg_ok (env_cons ok_impl_copySender (env_cons ok_impl_copyReceiver env_nil)) envL_nil envB_nil) Try.func41 (c := codeOf Try.f41) rfl Try.call41 (by decide)
    (.leaf) ?_ ?_
  · exact conds_leaf _ _
  · intro xs r h
    refine Eq.trans (Eq.symm ?_) h
    kernel_rfl
@[reducible] noncomputable def e_impl_StreamOf : FnE := { f := 25, args := [tyConnx, .int .i64], res := [tyStreamx, .bool], F := fun xs => impl_StreamOf xs.1 xs.2.1 }
theorem ok_impl_StreamOf : FnOK Try.prog glob e_impl_StreamOf := by
  refine FnOK.of (e := e_impl_StreamOf) (C := cfg [] [e_impl_FindStream, e_impl_copyStream] [] []) (cfg_ok (env_cons ok_impl_FindStream (env_cons ok_impl_copyStream env_nil)) envL_nil envB_nil) Try.func25 (c := codeOf Try.f25) rfl Try.call25 (by decide)
    (.leaf) ?_ ?_
  · exact conds_leaf _ _
  · intro xs r h
    refine Eq.trans (Eq.symm ?_) h
    kernel_rfl
@[reducible] noncomputable def e_impl_IsUrgentFirst : FnE := { f := 9, args := [tyConnx, .slice 60 (tyFrame)], res := [.bool], F := fun xs => impl_IsUrgentFirst xs.1 xs.2.1 }
theorem ok_impl_IsUrgentFirst : FnOK Try.prog glob e_impl_IsUrgentFirst := by
  refine FnOK.of (e := e_impl_IsUrgentFirst) (C := cfg [] [e_impl_OrderOf, e_impl_StreamOf] [] []) (cfg_ok (env_cons ok_impl_OrderOf (env_cons ok_impl_StreamOf env_nil)) envL_nil envB_nil) Try.func9 (c := codeOf Try.f9) rfl Try.call9 (by decide)
    ((.seq .leaf (.seq .leaf (.seq (.seq .leaf (.block (.loop impl_IsUrgentFirst_l1_p (fun N v => impl_IsUrgentFirst_l1 N v.1 v.2.1 v.2.2.1 v.2.2.2.1 v.2.2.2.2.1 v.2.2.2.2.2.1) (fun v => impl_IsUrgentFirst_l1_fuel v.1 v.2.1 v.2.2.1 v.2.2.2.1 v.2.2.2.2.1 v.2.2.2.2.2.1) (fun K1 => .leaf)))) .leaf)))) ?_ ?_
  · exact ⟨conds_leaf _ _, ⟨conds_leaf _ _, ⟨⟨conds_leaf _ _, ⟨fun _ => rfl, fun N => ⟨(fun v => by kernel_rfl), conds_leaf _ _⟩⟩⟩, conds_leaf _ _⟩⟩⟩
  · intro xs r h
    refine Eq.trans (Eq.symm ?_) h
    kernel_rfl
@[reducible] noncomputable def e_laws_eqConf : FnE := { f := 26, args := [tyConf, tyConf], res := [.bool], F := fun xs => laws_eqConf xs.1 xs.2.1 }
theorem ok_laws_eqConf : FnOK Try.prog glob e_laws_eqConf := by
  refine FnOK.of (e := e_laws_eqConf) (C := cfg [] [] [] []) (cfg_ok env_nil envL_nil envB_nil) Try.func26 (c := codeOf Try.f26) rfl Try.call26 (by decide)
    (.leaf) ?_ ?_
  · exact conds_leaf _ _
  · intro xs r h
    refine Eq.trans (Eq.symm ?_) h
    kernel_rfl
@[reducible] noncomputable def e_laws_eqIntS : FnE := { f := 78, args := [.slice 3 (.int .i64), .slice 3 (.int .i64)], res := [.bool], F := fun xs => laws_eqIntS xs.1 xs.2.1 }
theorem ok_laws_eqIntS : FnOK Try.prog glob e_laws_eqIntS := by
  refine FnOK.of (e := e_laws_eqIntS) (C := cfg [] [] [] []) (cfg_ok env_nil envL_nil envB_nil) Try.func78 (c := codeOf Try.f78) rfl Try.call78 (by decide)
    ((.seq .leaf (.seq .leaf (.seq (.seq .leaf (.block (.loop laws_eqIntS_l1_p (fun N v => laws_eqIntS_l1 N v.1 v.2.1 v.2.2.1) (fun v => laws_eqIntS_l1_fuel v.1 v.2.1 v.2.2.1) (fun K1 => .leaf)))) .leaf)))) ?_ ?_
  · exact ⟨conds_leaf _ _, ⟨conds_leaf _ _, ⟨⟨conds_leaf _ _, ⟨fun _ => rfl, fun N => ⟨(fun v => by kernel_rfl), conds_leaf _ _⟩⟩⟩, conds_leaf _ _⟩⟩⟩
  · intro xs r h
    refine Eq.trans (Eq.symm ?_) h
    kernel_rfl
@[reducible] noncomputable def e_laws_eqRing : FnE := { f := 70, args := [tyRing, tyRing], res := [.bool], F := fun xs => laws_eqRing xs.1 xs.2.1 }
theorem ok_laws_eqRing : FnOK Try.prog glob e_laws_eqRing := by
  refine FnOK.of (e := e_laws_eqRing) (C := cfg [] [e_laws_eqIntS] [] []) (cfg_ok (env_cons ok_laws_eqIntS env_nil) envL_nil envB_nil) Try.func70 (c := codeOf Try.f70) rfl Try.call70 (by decide)
    (.leaf) ?_ ?_
  · exact conds_leaf _ _
  · intro xs r h
    refine Eq.trans (Eq.symm ?_) h
    kernel_rfl
@[reducible] noncomputable def e_laws_eqRange : FnE := { f := 79, args := [tyRange, tyRange], res := [.bool], F := fun xs => laws_eqRange xs.1 xs.2.1 }
theorem ok_laws_eqRange : FnOK Try.prog glob e_laws_eqRange := by
  refine FnOK.of (e := e_laws_eqRange) (C := cfg [] [] [] []) (cfg_ok env_nil envL_nil envB_nil) Try.func79 (c := codeOf Try.f79) rfl Try.call79 (by decide)
    (.leaf) ?_ ?_
  · exact conds_leaf _ _
  · intro xs r h
    refine Eq.trans (Eq.symm ?_) h
    kernel_rfl
@[reducible] noncomputable def e_laws_eqRangeS : FnE := { f := 71, args := [.slice 147 (tyRange), .slice 147 (tyRange)], res := [.bool], F := fun xs => laws_eqRangeS xs.1 xs.2.1 }
theorem ok_laws_eqRangeS : FnOK Try.prog glob e_laws_eqRangeS := by
  refine FnOK.of (e := e_laws_eqRangeS) (C := cfg [] [e_laws_eqRange] [] []) (cfg_ok (env_cons ok_laws_eqRange env_nil) envL_nil envB_nil) Try.func71 (c := codeOf Try.f71) rfl Try.call71 (by decide)
    ((.seq .leaf (.seq .leaf (.seq (.seq .leaf (.block (.loop laws_eqRangeS_l1_p (fun N v => laws_eqRangeS_l1 N v.1 v.2.1 v.2.2.1) (fun v => laws_eqRangeS_l1_fuel v.1 v.2.1 v.2.2.1) (fun K1 => .leaf)))) .leaf)))) ?_ ?_
  · exact ⟨conds_leaf _ _, ⟨conds_leaf _ _, ⟨⟨conds_leaf _ _, ⟨fun _ => rfl, fun N => ⟨(fun v => by kernel_rfl), conds_leaf _ _⟩⟩⟩, conds_leaf _ _⟩⟩⟩
  · intro xs r h
    refine Eq.trans (Eq.symm ?_) h
    kernel_rfl
@[reducible] noncomputable def e_laws_eqSender : FnE := { f := 55, args := [tySenderx, tySenderx], res := [.bool], F := fun xs => laws_eqSender xs.1 xs.2.1 }
theorem ok_laws_eqSender : FnOK Try.prog glob e_laws_eqSender := by
  refine FnOK.of (e := e_laws_eqSender) (C := cfg [] [e_laws_eqRing, e_laws_eqRangeS] [] []) (cfg_ok (env_cons ok_laws_eqRing (env_cons ok_laws_eqRangeS env_nil)) envL_nil envB_nil) Try.func55 (c := codeOf Try.f55) rfl Try.call55 (by decide)
    (.leaf) ?_ ?_
  · exact conds_leaf _ _
  · intro xs r h
    refine Eq.trans (Eq.symm ?_) h
    kernel_rfl
@[reducible] noncomputable def e_laws_eqCredit : FnE := { f := 28, args := [tyAllow, tyAllow], res := [.bool], F := fun xs => laws_eqCredit xs.1 xs.2.1 }
theorem ok_laws_eqCredit : FnOK Try.prog glob e_laws_eqCredit := by
  refine FnOK.of (e := e_laws_eqCredit) (C := cfg [] [] [] []) (cfg_ok env_nil envL_nil envB_nil) Try.func28 (c := codeOf Try.f28) rfl Try.call28 (by decide)
    (.leaf) ?_ ?_
  · exact conds_leaf _ _
  · intro xs r h
    refine Eq.trans (Eq.symm ?_) h
    kernel_rfl
@[reducible] noncomputable def e_laws_eqChunk : FnE := { f := 83, args := [tyChunk, tyChunk], res := [.bool], F := fun xs => laws_eqChunk xs.1 xs.2.1 }
theorem ok_laws_eqChunk : FnOK Try.prog glob e_laws_eqChunk := by
  refine FnOK.of (e := e_laws_eqChunk) (C := cfg [] [] [] []) (cfg_ok env_nil envL_nil envB_nil) Try.func83 (c := codeOf Try.f83) rfl Try.call83 (by decide)
    (.leaf) ?_ ?_
  · exact conds_leaf _ _
  · intro xs r h
    refine Eq.trans (Eq.symm ?_) h
    kernel_rfl
@[reducible] noncomputable def e_laws_eqChunkS : FnE := { f := 80, args := [.slice 157 (tyChunk), .slice 157 (tyChunk)], res := [.bool], F := fun xs => laws_eqChunkS xs.1 xs.2.1 }
theorem ok_laws_eqChunkS : FnOK Try.prog glob e_laws_eqChunkS := by
  refine FnOK.of (e := e_laws_eqChunkS) (C := cfg [] [e_laws_eqChunk] [] []) (cfg_ok (env_cons ok_laws_eqChunk env_nil) envL_nil envB_nil) Try.func80 (c := codeOf Try.f80) rfl Try.call80 (by decide)
    ((.seq .leaf (.seq .leaf (.seq (.seq .leaf (.block (.loop laws_eqChunkS_l1_p (fun N v => laws_eqChunkS_l1 N v.1 v.2.1 v.2.2.1) (fun v => laws_eqChunkS_l1_fuel v.1 v.2.1 v.2.2.1) (fun K1 => .leaf)))) .leaf)))) ?_ ?_
  · exact ⟨conds_leaf _ _, ⟨conds_leaf _ _, ⟨⟨conds_leaf _ _, ⟨fun _ => rfl, fun N => ⟨(fun v => by kernel_rfl), conds_leaf _ _⟩⟩⟩, conds_leaf _ _⟩⟩⟩
  · intro xs r h
    refine Eq.trans (Eq.symm ?_) h
    kernel_rfl
@[reducible] noncomputable def e_laws_eqBuffer : FnE := { f := 72, args := [tyBufferx, tyBufferx], res := [.bool], F := fun xs => laws_eqBuffer xs.1 xs.2.1 }
theorem ok_laws_eqBuffer : FnOK Try.prog glob e_laws_eqBuffer := by
  refine FnOK.of (e := e_laws_eqBuffer) (C := cfg [] [e_laws_eqChunkS] [] []) (cfg_ok (env_cons ok_laws_eqChunkS env_nil) envL_nil envB_nil) Try.func72 (c := codeOf Try.f72) rfl Try.call72 (by decide)
    (.leaf) ?_ ?_
  · exact conds_leaf _ _
  · intro xs r h
    refine Eq.trans (Eq.symm ?_) h
    kernel_rfl
@[reducible] noncomputable def e_laws_eqReceiver : FnE := { f := 56, args := [tyReceiverx, tyReceiverx], res := [.bool], F := fun xs => laws_eqReceiver xs.1 xs.2.1 }
theorem ok_laws_eqReceiver : FnOK Try.prog glob e_laws_eqReceiver := by
  refine FnOK.of (e := e_laws_eqReceiver) (C := cfg [] [e_laws_eqBuffer] [] []) (cfg_ok (env_cons ok_laws_eqBuffer env_nil) envL_nil envB_nil) Try.func56 (c := codeOf Try.f56) rfl Try.call56 (by decide)
    (.leaf) ?_ ?_
  · exact conds_leaf _ _
  · intro xs r h
    refine Eq.trans (Eq.symm ?_) h
    kernel_rfl
@[reducible] noncomputable def e_laws_eqWindow : FnE := { f := 29, args := [tyWindow, tyWindow], res := [.bool], F := fun xs => laws_eqWindow xs.1 xs.2.1 }
theorem ok_laws_eqWindow : FnOK Try.prog glob e_laws_eqWindow := by
  refine FnOK.of (e := e_laws_eqWindow) (C := cfg [] [] [] []) (cfg_ok env_nil envL_nil envB_nil) Try.func29 (c := codeOf Try.f29) rfl Try.call29 (by decide)
    (.leaf) ?_ ?_
  · exact conds_leaf _ _
  · intro xs r h
    refine Eq.trans (Eq.symm ?_) h
    kernel_rfl
@[reducible] noncomputable def e_laws_eqPriority : FnE := { f := 57, args := [tyPriority, tyPriority], res := [.bool], F := fun xs => laws_eqPriority xs.1 xs.2.1 }
theorem ok_laws_eqPriority : FnOK Try.prog glob e_laws_eqPriority := by
  refine FnOK.of (e := e_laws_eqPriority) (C := cfg [] [] [] []) (cfg_ok env_nil envL_nil envB_nil) Try.func57 (c := codeOf Try.f57) rfl Try.call57 (by decide)
    (.leaf) ?_ ?_
  · exact conds_leaf _ _
  · intro xs r h
    refine Eq.trans (Eq.symm ?_) h
    kernel_rfl
@[reducible] noncomputable def e_laws_eqStream : FnE := { f := 42, args := [tyStreamx, tyStreamx], res := [.bool], F := fun xs => laws_eqStream xs.1 xs.2.1 }
theorem ok_laws_eqStream : FnOK Try.prog glob e_laws_eqStream := by
  refine FnOK.of (e := e_laws_eqStream) (C := cfg [] [e_laws_eqSender, e_laws_eqCredit, e_laws_eqReceiver, e_laws_eqWindow, e_laws_eqPriority] [] []) (cfg_ok (env_cons ok_laws_eqSender (env_cons ok_laws_eqCredit (env_cons ok_laws_eqReceiver (env_cons ok_laws_eqWindow (env_cons ok_laws_eqPriority env_nil))))) envL_nil envB_nil) Try.func42 (c := codeOf Try.f42) rfl Try.call42 (by decide)
    (.leaf) ?_ ?_
  · exact conds_leaf _ _
  · intro xs r h
    refine Eq.trans (Eq.symm ?_) h
    kernel_rfl
@[reducible] noncomputable def e_laws_eqStreamS : FnE := { f := 27, args := [.slice 75 (tyStreamx), .slice 75 (tyStreamx)], res := [.bool], F := fun xs => laws_eqStreamS xs.1 xs.2.1 }
theorem ok_laws_eqStreamS : FnOK Try.prog glob e_laws_eqStreamS := by
  refine FnOK.of (e := e_laws_eqStreamS) (C := cfg [] [e_laws_eqStream] [] []) (cfg_ok (env_cons ok_laws_eqStream env_nil) envL_nil envB_nil) Try.func27 (c := codeOf Try.f27) rfl Try.call27 (by decide)
    ((.seq .leaf (.seq .leaf (.seq (.seq .leaf (.block (.loop laws_eqStreamS_l1_p (fun N v => laws_eqStreamS_l1 N v.1 v.2.1 v.2.2.1) (fun v => laws_eqStreamS_l1_fuel v.1 v.2.1 v.2.2.1) (fun K1 => .leaf)))) .leaf)))) ?_ ?_
  · exact ⟨conds_leaf _ _, ⟨conds_leaf _ _, ⟨⟨conds_leaf _ _, ⟨fun _ => rfl, fun N => ⟨(fun v => by kernel_rfl), conds_leaf _ _⟩⟩⟩, conds_leaf _ _⟩⟩⟩
  · intro xs r h
    refine Eq.trans (Eq.symm ?_) h
    kernel_rfl
@[reducible] noncomputable def e_laws_eqCount : FnE := { f := 30, args := [tyCount, tyCount], res := [.bool], F := fun xs => laws_eqCount xs.1 xs.2.1 }
theorem ok_laws_eqCount : FnOK Try.prog glob e_laws_eqCount := by
  refine FnOK.of (e := e_laws_eqCount) (C := cfg [] [] [] []) (cfg_ok env_nil envL_nil envB_nil) Try.func30 (c := codeOf Try.f30) rfl Try.call30 (by decide)
    (.leaf) ?_ ?_
  · exact conds_leaf _ _
  · intro xs r h
    refine Eq.trans (Eq.symm ?_) h
    kernel_rfl
@[reducible] noncomputable def e_laws_eqAllow : FnE := { f := 31, args := [tyAllow, tyAllow], res := [.bool], F := fun xs => laws_eqAllow xs.1 xs.2.1 }
theorem ok_laws_eqAllow : FnOK Try.prog glob e_laws_eqAllow := by
  refine FnOK.of (e := e_laws_eqAllow) (C := cfg [] [] [] []) (cfg_ok env_nil envL_nil envB_nil) Try.func31 (c := codeOf Try.f31) rfl Try.call31 (by decide)
    (.leaf) ?_ ?_
  · exact conds_leaf _ _
  · intro xs r h
    refine Eq.trans (Eq.symm ?_) h
    kernel_rfl
@[reducible] noncomputable def e_laws_eqFrame : FnE := { f := 33, args := [tyFrame, tyFrame], res := [.bool], F := fun xs => laws_eqFrame xs.1 xs.2.1 }
theorem ok_laws_eqFrame : FnOK Try.prog glob e_laws_eqFrame := by
  refine FnOK.of (e := e_laws_eqFrame) (C := cfg [] [] [] []) (cfg_ok env_nil envL_nil envB_nil) Try.func33 (c := codeOf Try.f33) rfl Try.call33 (by decide)
    (.leaf) ?_ ?_
  · exact conds_leaf _ _
  · intro xs r h
    refine Eq.trans (Eq.symm ?_) h
    kernel_rfl
@[reducible] noncomputable def e_laws_eqFrameS : FnE := { f := 11, args := [.slice 60 (tyFrame), .slice 60 (tyFrame)], res := [.bool], F := fun xs => laws_eqFrameS xs.1 xs.2.1 }
theorem ok_laws_eqFrameS : FnOK Try.prog glob e_laws_eqFrameS := by
  refine FnOK.of (e := e_laws_eqFrameS) (C := cfg [] [e_laws_eqFrame] [] []) (cfg_ok (env_cons ok_laws_eqFrame env_nil) envL_nil envB_nil) Try.func11 (c := codeOf Try.f11) rfl Try.call11 (by decide)
    ((.seq .leaf (.seq .leaf (.seq (.seq .leaf (.block (.loop laws_eqFrameS_l1_p (fun N v => laws_eqFrameS_l1 N v.1 v.2.1 v.2.2.1) (fun v => laws_eqFrameS_l1_fuel v.1 v.2.1 v.2.2.1) (fun K1 => .leaf)))) .leaf)))) ?_ ?_
  · exact ⟨conds_leaf _ _, ⟨conds_leaf _ _, ⟨⟨conds_leaf _ _, ⟨fun _ => rfl, fun N => ⟨(fun v => by kernel_rfl), conds_leaf _ _⟩⟩⟩, conds_leaf _ _⟩⟩⟩
  · intro xs r h
    refine Eq.trans (Eq.symm ?_) h
    kernel_rfl
@[reducible] noncomputable def e_laws_eqPacket : FnE := { f := 43, args := [tyPacketx, tyPacketx], res := [.bool], F := fun xs => laws_eqPacket xs.1 xs.2.1 }
theorem ok_laws_eqPacket : FnOK Try.prog glob e_laws_eqPacket := by
  refine FnOK.of (e := e_laws_eqPacket) (C := cfg [] [e_laws_eqFrameS] [] []) (cfg_ok (env_cons ok_laws_eqFrameS env_nil) envL_nil envB_nil) Try.func43 (c := codeOf Try.f43) rfl Try.call43 (by decide)
    (.leaf) ?_ ?_
  · exact conds_leaf _ _
  · intro xs r h
    refine Eq.trans (Eq.symm ?_) h
    kernel_rfl
@[reducible] noncomputable def e_laws_eqPacketS : FnE := { f := 32, args := [.slice 115 (tyPacketx), .slice 115 (tyPacketx)], res := [.bool], F := fun xs => laws_eqPacketS xs.1 xs.2.1 }
theorem ok_laws_eqPacketS : FnOK Try.prog glob e_laws_eqPacketS := by
  refine FnOK.of (e := e_laws_eqPacketS) (C := cfg [] [e_laws_eqPacket] [] []) (cfg_ok (env_cons ok_laws_eqPacket env_nil) envL_nil envB_nil) Try.func32 (c := codeOf Try.f32) rfl Try.call32 (by decide)
    ((.seq .leaf (.seq .leaf (.seq (.seq .leaf (.block (.loop laws_eqPacketS_l1_p (fun N v => laws_eqPacketS_l1 N v.1 v.2.1 v.2.2.1) (fun v => laws_eqPacketS_l1_fuel v.1 v.2.1 v.2.2.1) (fun K1 => .leaf)))) .leaf)))) ?_ ?_
  · exact ⟨conds_leaf _ _, ⟨conds_leaf _ _, ⟨⟨conds_leaf _ _, ⟨fun _ => rfl, fun N => ⟨(fun v => by kernel_rfl), conds_leaf _ _⟩⟩⟩, conds_leaf _ _⟩⟩⟩
  · intro xs r h
    refine Eq.trans (Eq.symm ?_) h
    kernel_rfl
@[reducible] noncomputable def e_laws_eqConn : FnE := { f := 10, args := [tyConnx, tyConnx], res := [.bool], F := fun xs => laws_eqConn xs.1 xs.2.1 }
theorem ok_laws_eqConn : FnOK Try.prog glob e_laws_eqConn := by
  refine FnOK.of (e := e_laws_eqConn) (C := cfg [] [e_laws_eqConf, e_laws_eqStreamS, e_laws_eqCredit, e_laws_eqWindow, e_laws_eqCount, e_laws_eqAllow, e_laws_eqPacketS] [] []) (cfg_ok (env_cons ok_laws_eqConf (env_cons ok_laws_eqStreamS (env_cons ok_laws_eqCredit (env_cons ok_laws_eqWindow (env_cons ok_laws_eqCount (env_cons ok_laws_eqAllow (env_cons ok_laws_eqPacketS env_nil))))))) envL_nil envB_nil) Try.func10 (c := codeOf Try.f10) rfl Try.call10 (by decide)
    (.leaf) ?_ ?_
  · exact conds_leaf _ _
  · intro xs r h
    refine Eq.trans (Eq.symm ?_) h
    kernel_rfl
@[reducible] noncomputable def e_laws_FnExactIsUrgentFirst : FnE := { f := 3, args := [tyConn, .slice 59 (tyFrame)], res := [.bool], F := fun xs => laws_FnExactIsUrgentFirst xs.1 xs.2.1 }
theorem ok_laws_FnExactIsUrgentFirst : FnOK Try.prog glob e_laws_FnExactIsUrgentFirst := by
  refine FnOK.of (e := e_laws_FnExactIsUrgentFirst) (C := cfg [] [e_laws_szConn, e_laws_szFrameS, e_laws_toConn, e_laws_toFrameS, e_spec_IsUrgentFirst, e_impl_IsUrgentFirst, e_laws_eqConn, e_laws_eqFrameS] [] []) (cfg_ok (env_cons ok_laws_szConn (env_cons ok_laws_szFrameS (env_cons ok_laws_toConn (env_cons ok_laws_toFrameS (env_cons ok_spec_IsUrgentFirst (env_cons ok_impl_IsUrgentFirst (env_cons ok_laws_eqConn (env_cons ok_laws_eqFrameS env_nil)))))))) envL_nil envB_nil) Try.func3 (c := codeOf Try.f3) rfl Try.call3 (by decide)
    (.leaf) ?_ ?_
  · exact conds_leaf _ _
  · intro xs r h
    refine Eq.trans (Eq.symm ?_) h
    kernel_rfl
end Go.Proofs.Ytgdhcchnhjlenaa

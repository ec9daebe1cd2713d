/- FnExactTrackLines returns true for all arguments. No condition. -/
import Derived.Test.YtdhcpaebmpmihaaGreatDoorModExactTrackLines
import Derived.KernelRfl
import Derived.Test.YtdhcpaebmpmihaaGreatDoorCards
import Derived.Test.YtdhcpaebmpmihaaGreatDoorTie
import Derived.ProofKit
import Derived.LaidMore
import Derived.OpenShut
import Derived.Stop.Joined
import Derived.SevenTiedAt
import Derived.Lib.LaidTab
import Derived.Stop.LaidErr
import Derived.LaidHandle
import Derived.Lib.ItoaLen
namespace Go.Proofs.YtdhcpaebmpmihaaGreatDoor
open Go.Am Go.ChangeShapes Go.WideShapes Go.ChangeAt Go.RowKit
set_option linter.unusedVariables false
theorem sz_laws_szIntS (a : List Int) (hw : wf (.slice 3 (.int .i64)) a) : SzOK (fun left => laws_szIntS a left) (small 1048576 (.slice 3 (.int .i64)) a) := by
  exact SzOK.imp (SzOK.len a hw.1 SzOK.last) (fun h => ⟨h.1, fun _ _ => trivial⟩)

theorem sz_laws_szRing (a : TRing) (hw : wf (tyRing) a) : SzOK (fun left => laws_szRing a left) (small 1048576 (tyRing) a) := by
  exact SzOK.imp (SzOK.seq (sz_laws_szIntS a.2.2.2.1 hw.2.2.2.1) SzOK.last) (fun h => ⟨trivial, ⟨trivial, ⟨trivial, ⟨h.1, trivial⟩⟩⟩⟩)

theorem sz_laws_szRangeS (a : List TRange) (hw : wf (.slice 187 (tyRange)) a) : SzOK (fun left => laws_szRangeS a left) (small 1048576 (.slice 187 (tyRange)) a) := by
  exact SzOK.imp (SzOK.len a hw.1 SzOK.last) (fun h => ⟨h.1, fun _ _ => ⟨trivial, ⟨trivial, trivial⟩⟩⟩)

theorem sz_laws_szSender (a : TSender) (hw : wf (tySender) a) : SzOK (fun left => laws_szSender a left) (small 1048576 (tySender) a) := by
  exact SzOK.imp (SzOK.seq (sz_laws_szRing a.2.1 hw.2.1) (SzOK.seq (sz_laws_szRangeS a.2.2.1 hw.2.2.1) (SzOK.seq (sz_laws_szRangeS a.2.2.2.1 hw.2.2.2.1) (SzOK.seq (sz_laws_szRangeS a.2.2.2.2.1 hw.2.2.2.2.1) SzOK.last)))) (fun h => ⟨trivial, ⟨h.1, ⟨h.2.1, ⟨h.2.2.1, ⟨h.2.2.2.1, ⟨trivial, ⟨trivial, ⟨trivial, ⟨trivial, trivial⟩⟩⟩⟩⟩⟩⟩⟩⟩)

theorem sz_laws_szChunk (a : TLetter) (hw : wf (tyLetter) a) : SzOK (fun left => laws_szChunk a left) (small 1048576 (tyLetter) a) := by
  exact SzOK.imp (SzOK.len a.2.1 hw.2.1 SzOK.last) (fun h => ⟨trivial, ⟨h.1, trivial⟩⟩)

theorem sz_laws_szChunkS (a : List TLetter) (hw : wf (.slice 199 (tyLetter)) a) : SzOK (fun left => laws_szChunkS a left) (small 1048576 (.slice 199 (tyLetter)) a) := by
  exact SzOK.len a hw.1 (SzOK.loop (d := zLetter) (g := laws_szChunk) (L := laws_szChunkS_l1) (fun _ _ _ _ => rfl) (fuel := laws_szChunkS_l1_fuel) (fun a left => by unfold laws_szChunkS_l1_fuel; omega) hw.1 (fun x hx => sz_laws_szChunk x (hw.2 x hx)))

theorem sz_laws_szBuffer (a : TBuffer) (hw : wf (tyBuffer) a) : SzOK (fun left => laws_szBuffer a left) (small 1048576 (tyBuffer) a) := by
  exact SzOK.imp (SzOK.seq (sz_laws_szChunkS a.2.1 hw.2.1) SzOK.last) (fun h => ⟨trivial, ⟨h.1, trivial⟩⟩)

theorem sz_laws_szReceiver (a : TReceiver) (hw : wf (tyReceiver) a) : SzOK (fun left => laws_szReceiver a left) (small 1048576 (tyReceiver) a) := by
  exact SzOK.imp (SzOK.seq (sz_laws_szBuffer a.2.1 hw.2.1) SzOK.last) (fun h => ⟨trivial, ⟨h.1, ⟨trivial, ⟨trivial, ⟨trivial, trivial⟩⟩⟩⟩⟩)

theorem sz_laws_szStream (a : TStream) (hw : wf (tyStream) a) : SzOK (fun left => laws_szStream a left) (small 1048576 (tyStream) a) := by
  exact SzOK.imp (SzOK.seq (sz_laws_szSender a.2.1 hw.2.1) (SzOK.seq (sz_laws_szReceiver a.2.2.2.1 hw.2.2.2.1) SzOK.last)) (fun h => ⟨trivial, ⟨h.1, ⟨⟨trivial, ⟨trivial, ⟨trivial, ⟨trivial, trivial⟩⟩⟩⟩, ⟨h.2.1, ⟨⟨trivial, ⟨trivial, ⟨trivial, ⟨trivial, ⟨trivial, ⟨trivial, trivial⟩⟩⟩⟩⟩⟩, ⟨⟨trivial, ⟨trivial, trivial⟩⟩, ⟨trivial, ⟨trivial, ⟨trivial, ⟨trivial, ⟨trivial, ⟨trivial, ⟨trivial, ⟨trivial, trivial⟩⟩⟩⟩⟩⟩⟩⟩⟩⟩⟩⟩⟩⟩)

theorem sz_laws_szStreamS (a : List TStream) (hw : wf (.slice 125 (tyStream)) a) : SzOK (fun left => laws_szStreamS a left) (small 1048576 (.slice 125 (tyStream)) a) := by
  exact SzOK.len a hw.1 (SzOK.loop (d := zStream) (g := laws_szStream) (L := laws_szStreamS_l1) (fun _ _ _ _ => rfl) (fuel := laws_szStreamS_l1_fuel) (fun a left => by unfold laws_szStreamS_l1_fuel; omega) hw.1 (fun x hx => sz_laws_szStream x (hw.2 x hx)))

theorem sz_laws_szFrame (a : TFrame) (hw : wf (tyFrame) a) : SzOK (fun left => laws_szFrame a left) (small 1048576 (tyFrame) a) := by
  exact SzOK.imp (SzOK.len a.2.2.2.1 hw.2.2.2.1 SzOK.last) (fun h => ⟨trivial, ⟨trivial, ⟨trivial, ⟨h.1, ⟨trivial, ⟨trivial, ⟨trivial, ⟨trivial, ⟨trivial, trivial⟩⟩⟩⟩⟩⟩⟩⟩⟩)

theorem sz_laws_szFrameS (a : List TFrame) (hw : wf (.slice 174 (tyFrame)) a) : SzOK (fun left => laws_szFrameS a left) (small 1048576 (.slice 174 (tyFrame)) a) := by
  exact SzOK.len a hw.1 (SzOK.loop (d := zFrame) (g := laws_szFrame) (L := laws_szFrameS_l1) (fun _ _ _ _ => rfl) (fuel := laws_szFrameS_l1_fuel) (fun a left => by unfold laws_szFrameS_l1_fuel; omega) hw.1 (fun x hx => sz_laws_szFrame x (hw.2 x hx)))

theorem sz_laws_szPacket (a : TPacket) (hw : wf (tyPacket) a) : SzOK (fun left => laws_szPacket a left) (small 1048576 (tyPacket) a) := by
  exact SzOK.imp (SzOK.seq (sz_laws_szFrameS a.2.1 hw.2.1) SzOK.last) (fun h => ⟨trivial, ⟨h.1, trivial⟩⟩)

theorem sz_laws_szPacketS (a : List TPacket) (hw : wf (.slice 129 (tyPacket)) a) : SzOK (fun left => laws_szPacketS a left) (small 1048576 (.slice 129 (tyPacket)) a) := by
  exact SzOK.len a hw.1 (SzOK.loop (d := zPacket) (g := laws_szPacket) (L := laws_szPacketS_l1) (fun _ _ _ _ => rfl) (fuel := laws_szPacketS_l1_fuel) (fun a left => by unfold laws_szPacketS_l1_fuel; omega) hw.1 (fun x hx => sz_laws_szPacket x (hw.2 x hx)))

theorem sz_laws_szConn (a : TConn) (hw : wf (tyConn) a) : SzOK (fun left => laws_szConn a left) (small 1048576 (tyConn) a) := by
  exact SzOK.imp (SzOK.seq (sz_laws_szStreamS a.2.2.2.1 hw.2.2.2.1) (SzOK.seq (sz_laws_szPacketS a.2.2.2.2.2.2.2.2.2.2.2.2.2.2.2.1 hw.2.2.2.2.2.2.2.2.2.2.2.2.2.2.2.1) SzOK.last)) (fun h => ⟨trivial, ⟨⟨trivial, ⟨trivial, ⟨trivial, ⟨trivial, ⟨trivial, ⟨trivial, ⟨trivial, ⟨trivial, trivial⟩⟩⟩⟩⟩⟩⟩⟩, ⟨⟨trivial, ⟨trivial, ⟨trivial, ⟨trivial, ⟨trivial, ⟨trivial, ⟨trivial, ⟨trivial, trivial⟩⟩⟩⟩⟩⟩⟩⟩, ⟨h.1, ⟨⟨trivial, ⟨trivial, ⟨trivial, ⟨trivial, trivial⟩⟩⟩⟩, ⟨⟨trivial, ⟨trivial, ⟨trivial, ⟨trivial, ⟨trivial, ⟨trivial, trivial⟩⟩⟩⟩⟩⟩, ⟨⟨trivial, ⟨trivial, ⟨trivial, trivial⟩⟩⟩, ⟨⟨trivial, ⟨trivial, ⟨trivial, trivial⟩⟩⟩, ⟨⟨trivial, ⟨trivial, ⟨trivial, ⟨trivial, trivial⟩⟩⟩⟩, ⟨⟨trivial, ⟨trivial, ⟨trivial, ⟨trivial, trivial⟩⟩⟩⟩, ⟨trivial, ⟨trivial, ⟨trivial, ⟨trivial, ⟨trivial, ⟨h.2.1, ⟨trivial, ⟨trivial, trivial⟩⟩⟩⟩⟩⟩⟩⟩⟩⟩⟩⟩⟩⟩⟩⟩⟩⟩)

theorem sz_laws_szLetter (a : TLetter) (hw : wf (tyLetter) a) : SzOK (fun left => laws_szLetter a left) (small 1048576 (tyLetter) a) := by
  exact SzOK.imp (SzOK.len a.2.1 hw.2.1 SzOK.last) (fun h => ⟨trivial, ⟨h.1, trivial⟩⟩)

theorem sz_laws_szLetterS (a : List TLetter) (hw : wf (.slice 82 (tyLetter)) a) : SzOK (fun left => laws_szLetterS a left) (small 1048576 (.slice 82 (tyLetter)) a) := by
  exact SzOK.len a hw.1 (SzOK.loop (d := zLetter) (g := laws_szLetter) (L := laws_szLetterS_l1) (fun _ _ _ _ => rfl) (fuel := laws_szLetterS_l1_fuel) (fun a left => by unfold laws_szLetterS_l1_fuel; omega) hw.1 (fun x hx => sz_laws_szLetter x (hw.2 x hx)))

theorem sz_laws_szTrack (a : TTrack) (hw : wf (tyTrack) a) : SzOK (fun left => laws_szTrack a left) (small 1048576 (tyTrack) a) := by
  exact SzOK.imp (SzOK.len a.2.2.1 hw.2.2.1 (SzOK.len a.2.2.2.1 hw.2.2.2.1 SzOK.last)) (fun h => ⟨trivial, ⟨trivial, ⟨h.1, ⟨h.2.1, ⟨trivial, ⟨trivial, ⟨trivial, trivial⟩⟩⟩⟩⟩⟩⟩)

theorem sz_laws_szTrackS (a : List TTrack) (hw : wf (.slice 84 (tyTrack)) a) : SzOK (fun left => laws_szTrackS a left) (small 1048576 (.slice 84 (tyTrack)) a) := by
  exact SzOK.len a hw.1 (SzOK.loop (d := zTrack) (g := laws_szTrack) (L := laws_szTrackS_l1) (fun _ _ _ _ => rfl) (fuel := laws_szTrackS_l1_fuel) (fun a left => by unfold laws_szTrackS_l1_fuel; omega) hw.1 (fun x hx => sz_laws_szTrack x (hw.2 x hx)))

theorem sz_laws_szPair (a : TPair) (hw : wf (tyPair) a) : SzOK (fun left => laws_szPair a left) (small 1048576 (tyPair) a) := by
  exact SzOK.imp (SzOK.seq (sz_laws_szConn a.1 hw.1) (SzOK.seq (sz_laws_szConn a.2.1 hw.2.1) (SzOK.seq (sz_laws_szLetterS a.2.2.1 hw.2.2.1) (SzOK.seq (sz_laws_szLetterS a.2.2.2.1 hw.2.2.2.1) (SzOK.seq (sz_laws_szTrackS a.2.2.2.2.1 hw.2.2.2.2.1) SzOK.last))))) (fun h => ⟨h.1, ⟨h.2.1, ⟨h.2.2.1, ⟨h.2.2.2.1, ⟨h.2.2.2.2.1, trivial⟩⟩⟩⟩⟩)

theorem to_laws_toConf (a : TConf) (h : small 1048576 (tyConf) a) : laws_toConf a = some (a, ()) := by
  rfl

theorem to_laws_toIntS (a : List Int) (h : small 1048576 (.slice 3 (.int .i64)) a) : laws_toIntS a = some (a, ()) := by
  unfold laws_toIntS
  have hl := h.1
  simp only []
  rw [guardP_pos (by unfold capN; omega)]
  exact copy_loop (d := (0 : Int)) (L := laws_toIntS_l1) (fun _ _ _ _ => rfl) _ a _ 0 (by omega) (by simp) (by omega) (by simp) (by unfold laws_toIntS_l1_fuel; omega)

theorem to_laws_toRing (a : TRing) (h : small 1048576 (tyRing) a) : laws_toRing a = some (a, ()) := by
  unfold laws_toRing
  simp only [to_laws_toIntS a.2.2.2.1 h.2.2.2.1, Option.bind_some]

theorem to_laws_toRange (a : TRange) (h : small 1048576 (tyRange) a) : laws_toRange a = some (a, ()) := by
  rfl

theorem to_laws_toRangeS (a : List TRange) (h : small 1048576 (.slice 187 (tyRange)) a) : laws_toRangeS a = some (a, ()) := by
  unfold laws_toRangeS
  have hl := h.1
  simp only []
  rw [guardP_pos (by unfold capN; omega)]
  exact copy_loop_by (d := zRange) (g := laws_toRange) (ok := small 1048576 (tyRange)) to_laws_toRange (L := laws_toRangeS_l1) (fun _ _ _ _ => rfl) _ a _ 0 h.2 (by omega) (by simp) (by omega) (by simp) (by unfold laws_toRangeS_l1_fuel; omega)

theorem to_laws_toSender (a : TSender) (h : small 1048576 (tySender) a) : laws_toSender a = some (a, ()) := by
  unfold laws_toSender
  simp only [to_laws_toRing a.2.1 h.2.1, to_laws_toRangeS a.2.2.1 h.2.2.1, to_laws_toRangeS a.2.2.2.1 h.2.2.2.1, to_laws_toRangeS a.2.2.2.2.1 h.2.2.2.2.1, Option.bind_some]

theorem to_laws_toCredit (a : TAllow) (h : small 1048576 (tyAllow) a) : laws_toCredit a = some (a, ()) := by
  rfl

theorem to_laws_toChunk (a : TLetter) (h : small 1048576 (tyLetter) a) : laws_toChunk a = some (a, ()) := by
  rfl

theorem to_laws_toChunkS (a : List TLetter) (h : small 1048576 (.slice 199 (tyLetter)) a) : laws_toChunkS a = some (a, ()) := by
  unfold laws_toChunkS
  have hl := h.1
  simp only []
  rw [guardP_pos (by unfold capN; omega)]
  exact copy_loop_by (d := zLetter) (g := laws_toChunk) (ok := small 1048576 (tyLetter)) to_laws_toChunk (L := laws_toChunkS_l1) (fun _ _ _ _ => rfl) _ a _ 0 h.2 (by omega) (by simp) (by omega) (by simp) (by unfold laws_toChunkS_l1_fuel; omega)

theorem to_laws_toBuffer (a : TBuffer) (h : small 1048576 (tyBuffer) a) : laws_toBuffer a = some (a, ()) := by
  unfold laws_toBuffer
  simp only [to_laws_toChunkS a.2.1 h.2.1, Option.bind_some]

theorem to_laws_toReceiver (a : TReceiver) (h : small 1048576 (tyReceiver) a) : laws_toReceiver a = some (a, ()) := by
  unfold laws_toReceiver
  simp only [to_laws_toBuffer a.2.1 h.2.1, Option.bind_some]

theorem to_laws_toWindow (a : TWindow) (h : small 1048576 (tyWindow) a) : laws_toWindow a = some (a, ()) := by
  rfl

theorem to_laws_toPriority (a : TPriority) (h : small 1048576 (tyPriority) a) : laws_toPriority a = some (a, ()) := by
  rfl

theorem to_laws_toStream (a : TStream) (h : small 1048576 (tyStream) a) : laws_toStream a = some (a, ()) := by
  unfold laws_toStream
  simp only [to_laws_toSender a.2.1 h.2.1, to_laws_toCredit a.2.2.1 h.2.2.1, to_laws_toReceiver a.2.2.2.1 h.2.2.2.1, to_laws_toWindow a.2.2.2.2.1 h.2.2.2.2.1, to_laws_toPriority a.2.2.2.2.2.1 h.2.2.2.2.2.1, Option.bind_some]

theorem to_laws_toStreamS (a : List TStream) (h : small 1048576 (.slice 125 (tyStream)) a) : laws_toStreamS a = some (a, ()) := by
  unfold laws_toStreamS
  have hl := h.1
  simp only []
  rw [guardP_pos (by unfold capN; omega)]
  exact copy_loop_by (d := zStream) (g := laws_toStream) (ok := small 1048576 (tyStream)) to_laws_toStream (L := laws_toStreamS_l1) (fun _ _ _ _ => rfl) _ a _ 0 h.2 (by omega) (by simp) (by omega) (by simp) (by unfold laws_toStreamS_l1_fuel; omega)

theorem to_laws_toCount (a : TCount) (h : small 1048576 (tyCount) a) : laws_toCount a = some (a, ()) := by
  rfl

theorem to_laws_toAllow (a : TAllow) (h : small 1048576 (tyAllow) a) : laws_toAllow a = some (a, ()) := by
  rfl

theorem to_laws_toFrame (a : TFrame) (h : small 1048576 (tyFrame) a) : laws_toFrame a = some (a, ()) := by
  rfl

theorem to_laws_toFrameS (a : List TFrame) (h : small 1048576 (.slice 174 (tyFrame)) a) : laws_toFrameS a = some (a, ()) := by
  unfold laws_toFrameS
  have hl := h.1
  simp only []
  rw [guardP_pos (by unfold capN; omega)]
  exact copy_loop_by (d := zFrame) (g := laws_toFrame) (ok := small 1048576 (tyFrame)) to_laws_toFrame (L := laws_toFrameS_l1) (fun _ _ _ _ => rfl) _ a _ 0 h.2 (by omega) (by simp) (by omega) (by simp) (by unfold laws_toFrameS_l1_fuel; omega)

theorem to_laws_toPacket (a : TPacket) (h : small 1048576 (tyPacket) a) : laws_toPacket a = some (a, ()) := by
  unfold laws_toPacket
  simp only [to_laws_toFrameS a.2.1 h.2.1, Option.bind_some]

theorem to_laws_toPacketS (a : List TPacket) (h : small 1048576 (.slice 129 (tyPacket)) a) : laws_toPacketS a = some (a, ()) := by
  unfold laws_toPacketS
  have hl := h.1
  simp only []
  rw [guardP_pos (by unfold capN; omega)]
  exact copy_loop_by (d := zPacket) (g := laws_toPacket) (ok := small 1048576 (tyPacket)) to_laws_toPacket (L := laws_toPacketS_l1) (fun _ _ _ _ => rfl) _ a _ 0 h.2 (by omega) (by simp) (by omega) (by simp) (by unfold laws_toPacketS_l1_fuel; omega)

theorem to_laws_toConn (a : TConn) (h : small 1048576 (tyConn) a) : laws_toConn a = some (a, ()) := by
  unfold laws_toConn
  simp only [to_laws_toConf a.2.1 h.2.1, to_laws_toConf a.2.2.1 h.2.2.1, to_laws_toStreamS a.2.2.2.1 h.2.2.2.1, to_laws_toCredit a.2.2.2.2.1 h.2.2.2.2.1, to_laws_toWindow a.2.2.2.2.2.1 h.2.2.2.2.2.1, to_laws_toCount a.2.2.2.2.2.2.1 h.2.2.2.2.2.2.1, to_laws_toCount a.2.2.2.2.2.2.2.1 h.2.2.2.2.2.2.2.1, to_laws_toAllow a.2.2.2.2.2.2.2.2.1 h.2.2.2.2.2.2.2.2.1, to_laws_toAllow a.2.2.2.2.2.2.2.2.2.1 h.2.2.2.2.2.2.2.2.2.1, to_laws_toPacketS a.2.2.2.2.2.2.2.2.2.2.2.2.2.2.2.1 h.2.2.2.2.2.2.2.2.2.2.2.2.2.2.2.1, Option.bind_some]

theorem to_laws_toLetter (a : TLetter) (h : small 1048576 (tyLetter) a) : laws_toLetter a = some (a, ()) := by
  rfl

theorem to_laws_toLetterS (a : List TLetter) (h : small 1048576 (.slice 82 (tyLetter)) a) : laws_toLetterS a = some (a, ()) := by
  unfold laws_toLetterS
  have hl := h.1
  simp only []
  rw [guardP_pos (by unfold capN; omega)]
  exact copy_loop_by (d := zLetter) (g := laws_toLetter) (ok := small 1048576 (tyLetter)) to_laws_toLetter (L := laws_toLetterS_l1) (fun _ _ _ _ => rfl) _ a _ 0 h.2 (by omega) (by simp) (by omega) (by simp) (by unfold laws_toLetterS_l1_fuel; omega)

theorem to_laws_toTrack (a : TTrack) (h : small 1048576 (tyTrack) a) : laws_toTrack a = some (a, ()) := by
  rfl

theorem to_laws_toTrackS (a : List TTrack) (h : small 1048576 (.slice 84 (tyTrack)) a) : laws_toTrackS a = some (a, ()) := by
  unfold laws_toTrackS
  have hl := h.1
  simp only []
  rw [guardP_pos (by unfold capN; omega)]
  exact copy_loop_by (d := zTrack) (g := laws_toTrack) (ok := small 1048576 (tyTrack)) to_laws_toTrack (L := laws_toTrackS_l1) (fun _ _ _ _ => rfl) _ a _ 0 h.2 (by omega) (by simp) (by omega) (by simp) (by unfold laws_toTrackS_l1_fuel; omega)

theorem to_laws_toPair (a : TPair) (h : small 1048576 (tyPair) a) : laws_toPair a = some (a, ()) := by
  unfold laws_toPair
  simp only [to_laws_toConn a.1 h.1, to_laws_toConn a.2.1 h.2.1, to_laws_toLetterS a.2.2.1 h.2.2.1, to_laws_toLetterS a.2.2.2.1 h.2.2.2.1, to_laws_toTrackS a.2.2.2.2.1 h.2.2.2.2.1, Option.bind_some]

theorem eq_laws_eqStringS (a : List (List UInt8)) (h : small 1048576 (.slice 9 (.str)) a) : laws_eqStringS a a = some (true, ()) := by
  unfold laws_eqStringS
  have hl := h.1
  rw [bif_false (by simp)]
  exact eq_loop (d := ([] : List UInt8)) (ne := fun x y => !(x == y)) (by simp) (L := laws_eqStringS_l1) (fun _ _ _ _ => rfl) _ a 0 (by omega) (by omega) (by unfold laws_eqStringS_l1_fuel; omega)

theorem eq_laws_eqConf (a : TConf) (h : small 1048576 (tyConf) a) : laws_eqConf a a = some (true, ()) := by
  unfold laws_eqConf
  simp only [bne_self_eq_false, cond_false]

theorem eq_laws_eqIntS (a : List Int) (h : small 1048576 (.slice 3 (.int .i64)) a) : laws_eqIntS a a = some (true, ()) := by
  unfold laws_eqIntS
  have hl := h.1
  rw [bif_false (by simp)]
  exact eq_loop (d := (0 : Int)) (ne := fun x y => x != y) (by simp) (L := laws_eqIntS_l1) (fun _ _ _ _ => rfl) _ a 0 (by omega) (by omega) (by unfold laws_eqIntS_l1_fuel; omega)

theorem eq_laws_eqRing (a : TRing) (h : small 1048576 (tyRing) a) : laws_eqRing a a = some (true, ()) := by
  unfold laws_eqRing
  simp only [eq_laws_eqIntS a.2.2.2.1 h.2.2.2.1, bne_self_eq_false, Bool.not_true, cond_false, Option.bind_some]

theorem eq_laws_eqRange (a : TRange) (h : small 1048576 (tyRange) a) : laws_eqRange a a = some (true, ()) := by
  unfold laws_eqRange
  simp only [bne_self_eq_false, cond_false]

theorem eq_laws_eqRangeS (a : List TRange) (h : small 1048576 (.slice 165 (tyRange)) a) : laws_eqRangeS a a = some (true, ()) := by
  unfold laws_eqRangeS
  have hl := h.1
  rw [bif_false (by simp)]
  exact eq_loop_in (d := zRange) (g := laws_eqRange) (L := laws_eqRangeS_l1) (fun _ _ _ _ => rfl) _ a 0 (fun x hx => eq_laws_eqRange x (h.2 x hx)) (by omega) (by omega) (by unfold laws_eqRangeS_l1_fuel; omega)

theorem eq_laws_eqSender (a : TSenderx) (h : small 1048576 (tySenderx) a) : laws_eqSender a a = some (true, ()) := by
  unfold laws_eqSender
  simp only [eq_laws_eqRing a.2.1 h.2.1, eq_laws_eqRangeS a.2.2.1 h.2.2.1, eq_laws_eqRangeS a.2.2.2.1 h.2.2.2.1, eq_laws_eqRangeS a.2.2.2.2.1 h.2.2.2.2.1, bne_self_eq_false, Bool.not_true, cond_false, Option.bind_some]

theorem eq_laws_eqCredit (a : TAllow) (h : small 1048576 (tyAllow) a) : laws_eqCredit a a = some (true, ()) := by
  unfold laws_eqCredit
  simp only [bne_self_eq_false, cond_false]

theorem eq_laws_eqChunk (a : TLetter) (h : small 1048576 (tyLetter) a) : laws_eqChunk a a = some (true, ()) := by
  unfold laws_eqChunk
  simp only [bne_self_eq_false, beq_self_eq_true, Bool.not_true, cond_false]

theorem eq_laws_eqChunkS (a : List TLetter) (h : small 1048576 (.slice 167 (tyLetter)) a) : laws_eqChunkS a a = some (true, ()) := by
  unfold laws_eqChunkS
  have hl := h.1
  rw [bif_false (by simp)]
  exact eq_loop_in (d := zLetter) (g := laws_eqChunk) (L := laws_eqChunkS_l1) (fun _ _ _ _ => rfl) _ a 0 (fun x hx => eq_laws_eqChunk x (h.2 x hx)) (by omega) (by omega) (by unfold laws_eqChunkS_l1_fuel; omega)

theorem eq_laws_eqBuffer (a : TBufferx) (h : small 1048576 (tyBufferx) a) : laws_eqBuffer a a = some (true, ()) := by
  unfold laws_eqBuffer
  simp only [eq_laws_eqChunkS a.2.1 h.2.1, bne_self_eq_false, Bool.not_true, cond_false, Option.bind_some]

theorem eq_laws_eqReceiver (a : TReceiverx) (h : small 1048576 (tyReceiverx) a) : laws_eqReceiver a a = some (true, ()) := by
  unfold laws_eqReceiver
  simp only [eq_laws_eqBuffer a.2.1 h.2.1, bne_self_eq_false, Bool.not_true, cond_false, Option.bind_some]

theorem eq_laws_eqWindow (a : TWindow) (h : small 1048576 (tyWindow) a) : laws_eqWindow a a = some (true, ()) := by
  unfold laws_eqWindow
  simp only [bne_self_eq_false, cond_false]

theorem eq_laws_eqPriority (a : TPriority) (h : small 1048576 (tyPriority) a) : laws_eqPriority a a = some (true, ()) := by
  unfold laws_eqPriority
  simp only [bne_self_eq_false, beq_self_eq_true, Bool.not_true, cond_false]

theorem eq_laws_eqStream (a : TStreamx) (h : small 1048576 (tyStreamx) a) : laws_eqStream a a = some (true, ()) := by
  unfold laws_eqStream
  simp only [eq_laws_eqSender a.2.1 h.2.1, eq_laws_eqCredit a.2.2.1 h.2.2.1, eq_laws_eqReceiver a.2.2.2.1 h.2.2.2.1, eq_laws_eqWindow a.2.2.2.2.1 h.2.2.2.2.1, eq_laws_eqPriority a.2.2.2.2.2.1 h.2.2.2.2.2.1, bne_self_eq_false, beq_self_eq_true, Bool.not_true, cond_false, Option.bind_some]

theorem eq_laws_eqStreamS (a : List TStreamx) (h : small 1048576 (.slice 141 (tyStreamx)) a) : laws_eqStreamS a a = some (true, ()) := by
  unfold laws_eqStreamS
  have hl := h.1
  rw [bif_false (by simp)]
  exact eq_loop_in (d := zStreamx) (g := laws_eqStream) (L := laws_eqStreamS_l1) (fun _ _ _ _ => rfl) _ a 0 (fun x hx => eq_laws_eqStream x (h.2 x hx)) (by omega) (by omega) (by unfold laws_eqStreamS_l1_fuel; omega)

theorem eq_laws_eqCount (a : TCount) (h : small 1048576 (tyCount) a) : laws_eqCount a a = some (true, ()) := by
  unfold laws_eqCount
  simp only [bne_self_eq_false, cond_false]

theorem eq_laws_eqAllow (a : TAllow) (h : small 1048576 (tyAllow) a) : laws_eqAllow a a = some (true, ()) := by
  unfold laws_eqAllow
  simp only [bne_self_eq_false, cond_false]

theorem eq_laws_eqFrame (a : TFrame) (h : small 1048576 (tyFrame) a) : laws_eqFrame a a = some (true, ()) := by
  unfold laws_eqFrame
  simp only [bne_self_eq_false, beq_self_eq_true, Bool.not_true, cond_false]

theorem eq_laws_eqFrameS (a : List TFrame) (h : small 1048576 (.slice 169 (tyFrame)) a) : laws_eqFrameS a a = some (true, ()) := by
  unfold laws_eqFrameS
  have hl := h.1
  rw [bif_false (by simp)]
  exact eq_loop_in (d := zFrame) (g := laws_eqFrame) (L := laws_eqFrameS_l1) (fun _ _ _ _ => rfl) _ a 0 (fun x hx => eq_laws_eqFrame x (h.2 x hx)) (by omega) (by omega) (by unfold laws_eqFrameS_l1_fuel; omega)

theorem eq_laws_eqPacket (a : TPacketx) (h : small 1048576 (tyPacketx) a) : laws_eqPacket a a = some (true, ()) := by
  unfold laws_eqPacket
  simp only [eq_laws_eqFrameS a.2.1 h.2.1, bne_self_eq_false, Bool.not_true, cond_false, Option.bind_some]

theorem eq_laws_eqPacketS (a : List TPacketx) (h : small 1048576 (.slice 145 (tyPacketx)) a) : laws_eqPacketS a a = some (true, ()) := by
  unfold laws_eqPacketS
  have hl := h.1
  rw [bif_false (by simp)]
  exact eq_loop_in (d := zPacketx) (g := laws_eqPacket) (L := laws_eqPacketS_l1) (fun _ _ _ _ => rfl) _ a 0 (fun x hx => eq_laws_eqPacket x (h.2 x hx)) (by omega) (by omega) (by unfold laws_eqPacketS_l1_fuel; omega)

theorem eq_laws_eqConn (a : TConnx) (h : small 1048576 (tyConnx) a) : laws_eqConn a a = some (true, ()) := by
  unfold laws_eqConn
  simp only [eq_laws_eqConf a.2.1 h.2.1, eq_laws_eqConf a.2.2.1 h.2.2.1, eq_laws_eqStreamS a.2.2.2.1 h.2.2.2.1, eq_laws_eqCredit a.2.2.2.2.1 h.2.2.2.2.1, eq_laws_eqWindow a.2.2.2.2.2.1 h.2.2.2.2.2.1, eq_laws_eqCount a.2.2.2.2.2.2.1 h.2.2.2.2.2.2.1, eq_laws_eqCount a.2.2.2.2.2.2.2.1 h.2.2.2.2.2.2.2.1, eq_laws_eqAllow a.2.2.2.2.2.2.2.2.1 h.2.2.2.2.2.2.2.2.1, eq_laws_eqAllow a.2.2.2.2.2.2.2.2.2.1 h.2.2.2.2.2.2.2.2.2.1, eq_laws_eqPacketS a.2.2.2.2.2.2.2.2.2.2.2.2.2.2.2.1 h.2.2.2.2.2.2.2.2.2.2.2.2.2.2.2.1, bne_self_eq_false, beq_self_eq_true, Bool.not_true, cond_false, Option.bind_some]

theorem eq_laws_eqLetter (a : TLetter) (h : small 1048576 (tyLetter) a) : laws_eqLetter a a = some (true, ()) := by
  unfold laws_eqLetter
  simp only [bne_self_eq_false, beq_self_eq_true, Bool.not_true, cond_false]

theorem eq_laws_eqLetterS (a : List TLetter) (h : small 1048576 (.slice 93 (tyLetter)) a) : laws_eqLetterS a a = some (true, ()) := by
  unfold laws_eqLetterS
  have hl := h.1
  rw [bif_false (by simp)]
  exact eq_loop_in (d := zLetter) (g := laws_eqLetter) (L := laws_eqLetterS_l1) (fun _ _ _ _ => rfl) _ a 0 (fun x hx => eq_laws_eqLetter x (h.2 x hx)) (by omega) (by omega) (by unfold laws_eqLetterS_l1_fuel; omega)

theorem eq_laws_eqTrack (a : TTrack) (h : small 1048576 (tyTrack) a) : laws_eqTrack a a = some (true, ()) := by
  unfold laws_eqTrack
  simp only [bne_self_eq_false, beq_self_eq_true, Bool.not_true, cond_false]

theorem eq_laws_eqTrackS (a : List TTrack) (h : small 1048576 (.slice 67 (tyTrack)) a) : laws_eqTrackS a a = some (true, ()) := by
  unfold laws_eqTrackS
  have hl := h.1
  rw [bif_false (by simp)]
  exact eq_loop_in (d := zTrack) (g := laws_eqTrack) (L := laws_eqTrackS_l1) (fun _ _ _ _ => rfl) _ a 0 (fun x hx => eq_laws_eqTrack x (h.2 x hx)) (by omega) (by omega) (by unfold laws_eqTrackS_l1_fuel; omega)

theorem eq_laws_eqPair (a : TPairx) (h : small 1048576 (tyPairx) a) : laws_eqPair a a = some (true, ()) := by
  unfold laws_eqPair
  simp only [eq_laws_eqConn a.1 h.1, eq_laws_eqConn a.2.1 h.2.1, eq_laws_eqLetterS a.2.2.1 h.2.2.1, eq_laws_eqLetterS a.2.2.2.1 h.2.2.2.1, eq_laws_eqTrackS a.2.2.2.2.1 h.2.2.2.2.1, Bool.not_true, cond_false, Option.bind_some]

theorem app_one {α : Type} (pre : List α) (x : α) (rest : List α) : pre ++ x :: rest = pre ++ [x] ++ rest := by simp
theorem getD_app {α : Type} (pre : List α) (x : α) (rest : List α) (d : α) : (pre ++ x :: rest).getD ((pre.length : Int).toNat) d = x := by
  rw [show (pre.length : Int).toNat = pre.length from rfl, List.getD_eq_getElem?_getD, List.getElem?_append_right (Nat.le_refl _)]
  simp
/-! numbers as texts -/
theorem u8_ok (n : Int) (h0 : 0 ≤ n) (h1 : n < 256) : IntKind.u8.wrap n = n := by
  have : n % 2 ^ 8 = n := Int.emod_eq_of_lt h0 (by omega)
  simp only [IntKind.wrap, IntKind.bits, IntKind.signed, this]
  simp
def digs (u : Nat) : List UInt8 := if u = 0 then [] else Go.Lib.decDigits u
theorem digs_step {u : Nat} (h : u ≠ 0) : digs u = digs (u / 10) ++ [UInt8.ofNat (48 + u % 10)] := by
  unfold digs
  rw [if_neg h, Go.Lib.decDigits]
  by_cases h10 : u < 10
  · rw [dif_pos h10, if_pos (by omega), List.nil_append, Nat.mod_eq_of_lt h10]
  · rw [dif_neg h10, if_neg (by omega)]
theorem fmt_j1 {K1 : (Int × List UInt8 × Bool × Unit) → Option (List UInt8 × Unit)} {n : Int} {out : List UInt8} {neg : Bool} {d : Nat} (hd : d < 10) (hl : 1 + out.length ≤ capS) :
    spec_FormatInt_j1 K1 n out neg (d : Int) = K1 (IntKind.i64.wrap (Int.tdiv n 10), UInt8.ofNat (48 + d) :: out, neg, ()) := by
  unfold spec_FormatInt_j1
  have h1 : bytesOf [IntKind.u8.wrap (IntKind.i64.wrap ((48 : Int) + (d : Int)))] = [UInt8.ofNat (48 + d)] := by
    rw [i64_ok (by omega) (by omega), u8_ok _ (by omega) (by omega)]
    simp only [bytesOf, List.map_cons, List.map_nil]
    congr 2
  simp only [h1]
  rw [guardP_pos (by simpa using hl), guardP_pos (by decide)]
  rfl
theorem fmt_loop : ∀ (k u N : Nat) (n : Int) (out : List UInt8) (neg : Bool), u < 10 ^ k → k < N → u ≤ 9223372036854775808 → (n = (u : Int) ∨ n = -(u : Int)) → out.length + k ≤ 1000 → (n = 9223372036854775808 → False) →
    spec_FormatInt_l1 N n out neg = some ((bif neg then 45 :: (digs u ++ out) else digs u ++ out), ())
  | k, u, 0, n, out, neg, h1, h2, _, _, _, _ => by omega
  | k, u, N + 1, n, out, neg, h1, h2, h3, h4, h5, h6 => by
    unfold spec_FormatInt_l1
    by_cases hu : u = 0
    · have hn : n = 0 := by omega
      rw [bif_false (by simp [hn])]
      rw [guardP_pos (by simp only [capS, List.length_cons, List.length_nil]; omega)]
      have : digs u = [] := by rw [hu]; rfl
      rw [this]
      cases neg <;> rfl
    · have hn : n ≠ 0 := by omega
      rw [bif_true (by simp [hn]), guardP_pos (by decide)]
      cases k with
      | zero => simp at h1; omega
      | succ k =>
        have hd : u / 10 < 10 ^ k := by
          rw [Nat.pow_succ] at h1
          omega
        have hm : u % 10 < 10 := Nat.mod_lt _ (by decide)
        have hq : IntKind.i64.wrap (Int.tdiv n 10) = ((u / 10 : Nat) : Int) ∨ IntKind.i64.wrap (Int.tdiv n 10) = -((u / 10 : Nat) : Int) := by
          rcases h4 with rfl | rfl
          · left; rw [Int.tdiv_eq_ediv_of_nonneg (by omega), i64_ok (by omega) (by omega)]; omega
          · right; rw [Int.neg_tdiv, Int.tdiv_eq_ediv_of_nonneg (by omega), i64_ok (by omega) (by omega)]; omega
        have go : spec_FormatInt_j1 (fun v => spec_FormatInt_l1 N v.1 v.2.1 v.2.2.1) n out neg ((u % 10 : Nat) : Int) = some ((bif neg then 45 :: (digs u ++ out) else digs u ++ out), ()) := by
          rw [fmt_j1 hm (by simp only [capS]; omega)]
          show spec_FormatInt_l1 N (IntKind.i64.wrap (Int.tdiv n 10)) (UInt8.ofNat (48 + u % 10) :: out) neg = _
          rw [fmt_loop k (u / 10) N _ _ neg hd (by omega) (by omega) hq (by simp only [List.length_cons]; omega) (by intro h; rcases hq with hq | hq <;> omega)]
          rw [digs_step hu, List.append_assoc]
          rfl
        rcases h4 with rfl | rfl
        · have e : Int.tmod (u : Int) 10 = ((u % 10 : Nat) : Int) := by rw [Int.tmod_eq_emod_of_nonneg (by omega)]; omega
          rw [e, bif_false (dec_false (by omega))]
          exact go
        · have e : Int.tmod (-(u : Int)) 10 = -((u % 10 : Nat) : Int) := by rw [Int.neg_tmod, Int.tmod_eq_emod_of_nonneg (by omega)]; omega
          rw [e]
          by_cases hz : u % 10 = 0
          · rw [bif_false (dec_false (by omega))]
            have : -((u % 10 : Nat) : Int) = ((u % 10 : Nat) : Int) := by omega
            rw [this]; exact go
          · rw [bif_true (dec_true (by omega)), i64_ok (by omega) (by omega)]
            have : 0 - -((u % 10 : Nat) : Int) = ((u % 10 : Nat) : Int) := by omega
            rw [this]; exact go
theorem fmtInt (n : Int) (h0 : -9223372036854775808 ≤ n) (h1 : n ≤ 9223372036854775807) : spec_FormatInt n = some (Go.Lib.itoa n, ()) := by
  unfold spec_FormatInt
  by_cases hz : n = 0
  · rw [bif_true (by simp [hz]), hz]
    unfold Go.Lib.itoa
    rw [if_neg (by omega), Go.Lib.decDigits, dif_pos (by decide)]
    rfl
  · rw [bif_false (by simp [hz])]
    have hp : n.natAbs < 10 ^ 20 := by
      have : (9223372036854775809 : Nat) ≤ 10 ^ 20 := by decide
      omega
    rw [fmt_loop 20 n.natAbs _ n [] _ hp (by unfold spec_FormatInt_l1_fuel; omega) (by omega) (by omega) (by simp) (by omega)]
    unfold Go.Lib.itoa digs
    rw [if_neg (by omega), List.append_nil]
    by_cases hn : n < 0
    · rw [dec_true hn, if_pos hn]; rfl
    · rw [dec_false hn, if_neg hn]
      have : n.natAbs = n.toNat := by omega
      rw [this]; rfl
theorem itoa_len (n : Int) (h0 : -9223372036854775808 ≤ n) (h1 : n ≤ 9223372036854775807) : (Go.Lib.itoa n).length ≤ 21 := Go.Lib.itoa_length_le n h0 h1
theorem implInt (n : Int) (h0 : -9223372036854775808 ≤ n) (h1 : n ≤ 9223372036854775807) : impl_FormatInt n = some (Go.Lib.itoa n, ()) := by
  unfold impl_FormatInt strconv_Itoa
  rw [guardP_pos ⟨h0, h1⟩]
  rfl
theorem trackLine (t : TTrack) (h2 : t.2.2.1.length ≤ 1048576) (h3 : t.2.2.2.1.length ≤ 1048576) : ∃ r, spec_TrackLine t = some (r, ()) ∧ impl_TrackLine t = some (r, ()) := by
  obtain ⟨id, server, wrote, got, done, ended, broken, u⟩ := t
  simp only at h2 h3
  unfold spec_TrackLine impl_TrackLine spec_l32Small spec_l1In impl_within
  simp only [Option.bind_some]
  have hb : (decide (id ≥ (0 : Int)) && decide (id ≤ 999999999)) = (decide ((0 : Int) ≤ id) && decide (id ≤ 999999999)) := rfl
  rw [hb]
  by_cases hid : 0 ≤ id ∧ id ≤ 999999999
  · have e : (decide ((0 : Int) ≤ id) && decide (id ≤ 999999999)) = true := by simp [hid.1, hid.2]
    rw [e]
    have f1 := fmtInt id (by omega) (by omega)
    have f2 := fmtInt (wrote.length : Int) (by omega) (by omega)
    have f3 := fmtInt (got.length : Int) (by omega) (by omega)
    have g1 := implInt id (by omega) (by omega)
    have g2 := implInt (wrote.length : Int) (by omega) (by omega)
    have g3 := implInt (got.length : Int) (by omega) (by omega)
    have l1 := itoa_len id (by omega) (by omega)
    have l2 := itoa_len (wrote.length : Int) (by omega) (by omega)
    have l3 := itoa_len (got.length : Int) (by omega) (by omega)
    generalize Go.Lib.itoa id = a at *
    generalize Go.Lib.itoa (wrote.length : Int) = b at *
    generalize Go.Lib.itoa (got.length : Int) = c at *
    unfold spec_TrackLine_j1 impl_told
    simp only [f1, f2, f3, g1, g2, g3, Option.bind_some, Bool.not_true, cond_false]
    cases server <;> cases broken <;> cases ended <;>
      (simp only [cond_false, cond_true, Option.bind_some]
       repeat rw [guardP_pos (by simp only [List.length_append, List.length_cons, List.length_nil, capS]; omega)]
       refine ⟨_, rfl, ?_⟩
       repeat rw [guardP_pos (by simp only [List.length_append, List.length_cons, List.length_nil, capS]; omega)]
       simp only [List.append_assoc, List.cons_append, List.nil_append])
  · have e : (decide ((0 : Int) ≤ id) && decide (id ≤ 999999999)) = false := by
      rw [Bool.and_eq_false_iff, decide_eq_false_iff_not, decide_eq_false_iff_not]; omega
    rw [e]
    exact ⟨[], rfl, rfl⟩
theorem mark_text_loop : ∀ (d N : Nat) (k : Int) (out : List UInt8), 0 ≤ k → k < N → k < (10 : Int) ^ d → k ≤ 9223372036854775807 → out.length + d ≤ 1000 → ∃ r, laws_markText_l1 N k out = some (r, ())
  | d, 0, k, _, h0, h1, _, _, _ => by omega
  | 0, N + 1, k, out, h0, _, h1, _, h2 => by
    unfold laws_markText_l1
    rw [bif_false (dec_false (by simp at h1; omega)), guardP_pos (by unfold capS; simp; omega)]
    exact ⟨_, rfl⟩
  | d + 1, N + 1, k, out, h0, hN, h1, hb, h2 => by
    unfold laws_markText_l1
    by_cases h : k > 0
    · have hd : Int.tdiv k 10 = k / 10 := Int.tdiv_eq_ediv_of_nonneg h0
      have hk : k / 10 < (10 : Int) ^ d := by
        rw [Int.pow_succ] at h1
        generalize (10 : Int) ^ d = q at *
        omega
      rw [bif_true (dec_true h), guardP_pos (by decide)]
      simp only []
      rw [guardP_pos (by unfold capS bytesOf; simp; omega), guardP_pos (by decide), hd, i64_ok (by omega) (by omega)]
      exact mark_text_loop d N (k / 10) _ (by omega) (by omega) hk (by omega) (by unfold bytesOf; simp; omega)
    · rw [bif_false (dec_false h), guardP_pos (by unfold capS; simp; omega)]
      exact ⟨_, rfl⟩
noncomputable def tx (k : Int) : List UInt8 := ((laws_markText k).getD ([], ())).1
theorem mt (k : Int) (h1 : k ≤ 2305843009213693952) : laws_markText k = some (tx k, ()) := by
  have : ∃ r, laws_markText k = some (r, ()) := by
    unfold laws_markText
    by_cases h : k ≤ 0
    · rw [bif_true (dec_true h)]; exact ⟨_, rfl⟩
    · rw [bif_false (dec_false h)]
      have h3 : k < (10 : Int) ^ 30 := by
        have : (10 : Int) ^ 30 = 1000000000000000000000000000000 := by decide
        rw [this]; omega
      unfold laws_markText_l1_fuel
      exact mark_text_loop 30 _ k [] (by omega) (by omega) h3 (by omega) (by simp)
  obtain ⟨r, hr⟩ := this
  unfold tx
  rw [hr]
  rfl
theorem w1 (x : Int) (h0 : 0 ≤ x) (h1 : x ≤ 2305843009213693952) : IntKind.i64.wrap (x + 1) = x + 1 := i64_ok (by omega) (by omega)
theorem three : (3 : Int) ≠ 0 := by decide
/-- a mark that is made counts on -/
theorem inc_loop {α : Type} {L : Nat → List α → Int → Int → Option (Int × Unit)} {l : List α} (hl : l.length ≤ 1048576) {m : Int} (B : Int) (hm : 0 ≤ m)
    (hs : ∀ (N i : Nat) (k : Int), i < l.length → 0 ≤ k → k ≤ B → ∃ k', L (N + 1) l k (i : Int) = L N l k' (IntKind.i64.wrap ((i : Int) + 1)) ∧ k ≤ k' ∧ k' ≤ k + m)
    (he : ∀ (N i : Nat) (k : Int), ¬ i < l.length → L (N + 1) l k (i : Int) = some (k, ())) :
    ∀ (n N i : Nat) (k : Int), i + n = l.length → n < N → 0 ≤ k → k + m * (n : Int) ≤ B → ∃ r, L N l k (i : Int) = some (r, ()) ∧ k ≤ r ∧ r ≤ k + m * (n : Int)
  | n, 0, _, _, _, h, _, _ => by omega
  | 0, N + 1, i, k, hi, _, h0, h1 => ⟨k, he N i k (by omega), by omega, by simp⟩
  | n + 1, N + 1, i, k, hi, hN, h0, h1 => by
    have hmn : 0 ≤ m * (n : Int) := Int.mul_nonneg hm (by omega)
    have e : m * ((n + 1 : Nat) : Int) = m * (n : Int) + m := by rw [Int.natCast_succ, Int.mul_add, Int.mul_one]
    rw [e] at h1 ⊢
    obtain ⟨k', h2, h3, h4⟩ := hs N i k (by omega) h0 (by omega)
    rw [h2, i64_succ (m := l.length) (by omega) (by omega)]
    obtain ⟨r, g1, g2, g3⟩ := inc_loop hl B hm hs he n N (i + 1) k' (by omega) (by omega) (by omega) (by omega)
    exact ⟨r, g1, by omega, by omega⟩
theorem small_hide {m : Nat} : ∀ {T : Ty} {x : T.den}, small m T x → small m (hideT T) (hideV T x)
  | .str, _, _ => trivial
  | .int _, _, _ => trivial
  | .bool, _, _ => trivial
  | .unit, _, _ => trivial
  | .fnc _, _, h => h
  | .err, _, h => h
  | .hid _, _, h => h
  | .sptr .., _, h => h
  | .clo .., _, h => h
  | .slice _ t, x, ⟨h1, h2⟩ => ⟨by simpa [hideV] using h1, fun y hy => by
      obtain ⟨z, hz, rfl⟩ := List.mem_map.1 (show y ∈ List.map (hideV t) x from hy)
      exact small_hide (T := t) (h2 z hz)⟩
  | .pair a b, x, ⟨h1, h2⟩ => ⟨small_hide h1, small_hide h2⟩
  | .arr _ t, x, h => fun y hy => by
      obtain ⟨z, hz, rfl⟩ := List.mem_map.1 (show y ∈ List.map (hideV t) x from hy)
      exact small_hide (T := t) (h z hz)
theorem getD_mem {α : Type} {l : List α} {i : Nat} {d : α} (h : i < l.length) : l.getD i d ∈ l := by
  rw [List.getD_eq_getElem?_getD, List.getElem?_eq_getElem h]; exact List.getElem_mem h
theorem incInts (l : List Unit) (hl : l.length ≤ 1048576) (k : Int) (h0 : 0 ≤ k) (h1 : k ≤ 576460752303423488) : ∃ r, laws_markIntSW l k = some (r, ()) ∧ k ≤ r ∧ r ≤ k + 1048576 := by
  obtain ⟨r, e, g1, g2⟩ := inc_loop (L := laws_markIntSW_l1) (l := l) (m := 1) hl 1152921504606846976 (by omega) (fun N i k hi h0 h1 => by
    refine ⟨k + 1, ?_, by omega, by omega⟩
    have hg : 0 ≤ (i : Int) ∧ (i : Int) < l.length := ⟨by omega, by omega⟩
    rw [laws_markIntSW_l1, bif_true (dec_true hg.2)]
    simp (disch := omega) only [guardP_pos hg, w1]) (fun N i k hi => by rw [laws_markIntSW_l1, bif_false (dec_false (by omega))]) l.length (((l.length : Int) - 0).toNat + 1) 0 k (by omega) (by omega) h0 (by omega)
  exact ⟨r, e, g1, by omega⟩
theorem incRanges (l : List TRangeH) (hl : l.length ≤ 1048576) (k : Int) (h0 : 0 ≤ k) (h1 : k ≤ 576460752303423488) : ∃ r, laws_markRangeSW l k = some (r, ()) ∧ k ≤ r ∧ r ≤ k + 2097152 := by
  obtain ⟨r, e, g1, g2⟩ := inc_loop (L := laws_markRangeSW_l1) (l := l) (m := 2) hl 1152921504606846976 (by omega) (fun N i k hi h0 h1 => by
    refine ⟨k + 1 + 1, ?_, by omega, by omega⟩
    have hg : 0 ≤ (i : Int) ∧ (i : Int) < l.length := ⟨by omega, by omega⟩
    rw [laws_markRangeSW_l1, bif_true (dec_true hg.2)]
    simp (disch := omega) only [guardP_pos hg, w1]) (fun N i k hi => by rw [laws_markRangeSW_l1, bif_false (dec_false (by omega))]) l.length (((l.length : Int) - 0).toNat + 1) 0 k (by omega) (by omega) h0 (by omega)
  exact ⟨r, e, g1, by omega⟩
theorem incChunks (l : List TLetterH) (hl : l.length ≤ 1048576) (k : Int) (h0 : 0 ≤ k) (h1 : k ≤ 576460752303423488) : ∃ r, laws_markChunkSW l k = some (r, ()) ∧ k ≤ r ∧ r ≤ k + 2097152 := by
  obtain ⟨r, e, g1, g2⟩ := inc_loop (L := laws_markChunkSW_l1) (l := l) (m := 2) hl 1152921504606846976 (by omega) (fun N i k hi h0 h1 => by
    refine ⟨k + 1 + 1, ?_, by omega, by omega⟩
    have hg : 0 ≤ (i : Int) ∧ (i : Int) < l.length := ⟨by omega, by omega⟩
    rw [laws_markChunkSW_l1, bif_true (dec_true hg.2)]
    simp (disch := omega) only [guardP_pos hg, w1, mt, Option.bind_some]) (fun N i k hi => by rw [laws_markChunkSW_l1, bif_false (dec_false (by omega))]) l.length (((l.length : Int) - 0).toNat + 1) 0 k (by omega) (by omega) h0 (by omega)
  exact ⟨r, e, g1, by omega⟩
theorem incLetters (l : List TLetterH) (hl : l.length ≤ 1048576) (k : Int) (h0 : 0 ≤ k) (h1 : k ≤ 576460752303423488) : ∃ r, laws_markLetterSW l k = some (r, ()) ∧ k ≤ r ∧ r ≤ k + 2097152 := by
  obtain ⟨r, e, g1, g2⟩ := inc_loop (L := laws_markLetterSW_l1) (l := l) (m := 2) hl 1152921504606846976 (by omega) (fun N i k hi h0 h1 => by
    refine ⟨k + 1 + 1, ?_, by omega, by omega⟩
    have hg : 0 ≤ (i : Int) ∧ (i : Int) < l.length := ⟨by omega, by omega⟩
    rw [laws_markLetterSW_l1, bif_true (dec_true hg.2)]
    simp (disch := omega) only [guardP_pos hg, w1, mt, Option.bind_some]) (fun N i k hi => by rw [laws_markLetterSW_l1, bif_false (dec_false (by omega))]) l.length (((l.length : Int) - 0).toNat + 1) 0 k (by omega) (by omega) h0 (by omega)
  exact ⟨r, e, g1, by omega⟩
theorem incFrames (l : List TFrameH) (hl : l.length ≤ 1048576) (k : Int) (h0 : 0 ≤ k) (h1 : k ≤ 576460752303423488) : ∃ r, laws_markFrameSW l k = some (r, ()) ∧ k ≤ r ∧ r ≤ k + 16777216 := by
  obtain ⟨r, e, g1, g2⟩ := inc_loop (L := laws_markFrameSW_l1) (l := l) (m := 9) hl 1152921504606846976 (by omega) (fun N i k hi h0 h1 => by
    refine ⟨_, ?_, (?_ : k ≤ k + 1 + 1 + 1 + 1 + 1 + 1 + 1 + 1 + 1), by omega⟩
    have hg : 0 ≤ (i : Int) ∧ (i : Int) < l.length := ⟨by omega, by omega⟩
    rw [laws_markFrameSW_l1, bif_true (dec_true hg.2)]
    simp (disch := omega) only [guardP_pos hg, guardP_pos three, w1, mt, Option.bind_some]
    omega) (fun N i k hi => by rw [laws_markFrameSW_l1, bif_false (dec_false (by omega))]) l.length (((l.length : Int) - 0).toNat + 1) 0 k (by omega) (by omega) h0 (by omega)
  exact ⟨r, e, g1, by omega⟩
theorem incTracks (l : List TTrackH) (hl : l.length ≤ 1048576) (k : Int) (h0 : 0 ≤ k) (h1 : k ≤ 576460752303423488) : ∃ r, laws_markTrackSW l k = some (r, ()) ∧ k ≤ r ∧ r ≤ k + 16777216 := by
  obtain ⟨r, e, g1, g2⟩ := inc_loop (L := laws_markTrackSW_l1) (l := l) (m := 7) hl 1152921504606846976 (by omega) (fun N i k hi h0 h1 => by
    refine ⟨_, ?_, (?_ : k ≤ k + 1 + 1 + 1 + 1 + 1 + 1 + 1), by omega⟩
    have hg : 0 ≤ (i : Int) ∧ (i : Int) < l.length := ⟨by omega, by omega⟩
    rw [laws_markTrackSW_l1, bif_true (dec_true hg.2)]
    simp (disch := omega) only [guardP_pos hg, guardP_pos three, w1, mt, Option.bind_some]
    omega) (fun N i k hi => by rw [laws_markTrackSW_l1, bif_false (dec_false (by omega))]) l.length (((l.length : Int) - 0).toNat + 1) 0 k (by omega) (by omega) h0 (by omega)
  exact ⟨r, e, g1, by omega⟩
theorem incPackets (l : List TPacketxH) (hl : l.length ≤ 1048576) (hx : ∀ y ∈ l, small 1048576 tyPacketxH y) (k : Int) (h0 : 0 ≤ k) (h1 : k ≤ 288230376151711744) : ∃ r, laws_markPacketSW l k = some (r, ()) ∧ k ≤ r ∧ r ≤ k + 35184372088832 := by
  obtain ⟨r, e, g1, g2⟩ := inc_loop (L := laws_markPacketSW_l1) (l := l) (m := 16777217) hl 576460752303423487 (by omega) (fun N i k hi h0 h1 => by
    have hg : 0 ≤ (i : Int) ∧ (i : Int) < l.length := ⟨by omega, by omega⟩
    have hm := hx _ (getD_mem (l := l) (i := (i : Int).toNat) (d := zPacketxH) (by simpa using hi))
    have hf : (l.getD (i : Int).toNat zPacketxH).2.1.length ≤ 1048576 := hm.2.1.1
    obtain ⟨r, e, g1, g2⟩ := incFrames _ hf (k + 1) (by omega) (by omega)
    refine ⟨r, ?_, by omega, by omega⟩
    rw [laws_markPacketSW_l1, bif_true (dec_true hg.2)]
    simp (disch := omega) only [guardP_pos hg, w1, e, Option.bind_some]) (fun N i k hi => by rw [laws_markPacketSW_l1, bif_false (dec_false (by omega))]) l.length (((l.length : Int) - 0).toNat + 1) 0 k (by omega) (by omega) h0 (by omega)
  exact ⟨r, e, g1, by omega⟩
theorem incStreams (l : List TStreamxH) (hl : l.length ≤ 1048576) (hx : ∀ y ∈ l, small 1048576 tyStreamxH y) (k : Int) (h0 : 0 ≤ k) (h1 : k ≤ 288230376151711744) : ∃ r, laws_markStreamSW l k = some (r, ()) ∧ k ≤ r ∧ r ≤ k + 35184372088832 := by
  obtain ⟨r, e, g1, g2⟩ := inc_loop (L := laws_markStreamSW_l1) (l := l) (m := 16777217) hl 432345564227567616 (by omega) (fun N i k hi h0 h1 => by
    have hg : 0 ≤ (i : Int) ∧ (i : Int) < l.length := ⟨by omega, by omega⟩
    have hm := hx _ (getD_mem (l := l) (i := (i : Int).toNat) (d := zStreamxH) (by simpa using hi))
    have f1 : (l.getD (i : Int).toNat zStreamxH).2.1.2.1.2.2.2.1.length ≤ 1048576 := hm.2.1.2.1.2.2.2.1.1
    have f2 : (l.getD (i : Int).toNat zStreamxH).2.1.2.2.1.length ≤ 1048576 := hm.2.1.2.2.1.1
    have f3 : (l.getD (i : Int).toNat zStreamxH).2.1.2.2.2.1.length ≤ 1048576 := hm.2.1.2.2.2.1.1
    have f4 : (l.getD (i : Int).toNat zStreamxH).2.1.2.2.2.2.1.length ≤ 1048576 := hm.2.1.2.2.2.2.1.1
    have f5 : (l.getD (i : Int).toNat zStreamxH).2.2.2.1.2.1.2.1.length ≤ 1048576 := hm.2.2.2.1.2.1.2.1.1
    obtain ⟨r1, e1, g1, g1'⟩ := incInts _ f1 (k + 1 + 1 + 1 + 1 + 1) (by omega) (by omega)
    obtain ⟨r2, e2, g2, g2'⟩ := incRanges _ f2 r1 (by omega) (by omega)
    obtain ⟨r3, e3, g3, g3'⟩ := incRanges _ f3 r2 (by omega) (by omega)
    obtain ⟨r4, e4, g4, g4'⟩ := incRanges _ f4 r3 (by omega) (by omega)
    obtain ⟨r5, e5, g5, g5'⟩ := incChunks _ f5 (r4 + 1 + 1 + 1 + 1 + 1 + 1 + 1 + 1 + 1 + 1) (by omega) (by omega)
    refine ⟨r5 + 1 + 1 + 1 + 1 + 1 + 1 + 1 + 1 + 1 + 1 + 1 + 1 + 1 + 1 + 1 + 1 + 1 + 1 + 1, ?_, by omega, by omega⟩
    rw [laws_markStreamSW_l1, bif_true (dec_true hg.2)]
    simp (disch := omega) only [guardP_pos hg, guardP_pos three, w1, e1, e2, e3, e4, e5, Option.bind_some]) (fun N i k hi => by rw [laws_markStreamSW_l1, bif_false (dec_false (by omega))]) l.length (((l.length : Int) - 0).toNat + 1) 0 k (by omega) (by omega) h0 (by omega)
  exact ⟨r, e, g1, by omega⟩
theorem incConn (c : TConnxH) (h : small 1048576 tyConnxH c) (k : Int) (h0 : 0 ≤ k) (h1 : k ≤ 144115188075855872) : ∃ r, laws_markConnW c k = some (r, ()) ∧ k ≤ r ∧ r ≤ k + 70368744177664 := by
  obtain ⟨r1, e1, g1, g1'⟩ := incStreams c.2.2.2.1 h.2.2.2.1.1 h.2.2.2.1.2 k h0 (by omega)
  obtain ⟨r2, e2, g2, g2'⟩ := incPackets c.2.2.2.2.2.2.2.2.2.2.2.2.2.2.2.1 h.2.2.2.2.2.2.2.2.2.2.2.2.2.2.2.1.1 h.2.2.2.2.2.2.2.2.2.2.2.2.2.2.2.1.2 r1 (by omega) (by omega)
  refine ⟨r2, ?_, by omega, by omega⟩
  unfold laws_markConnW
  rw [e1, Option.bind_some, e2]
  rfl
theorem incPair (p : TPairxH) (h : small 1048576 tyPairxH p) : ∃ r, laws_markPairW p 1 = some (r, ()) ∧ 0 ≤ r := by
  obtain ⟨r1, e1, g1, g1'⟩ := incConn p.1 h.1 1 (by omega) (by omega)
  obtain ⟨r2, e2, g2, g2'⟩ := incConn p.2.1 h.2.1 r1 (by omega) (by omega)
  obtain ⟨r3, e3, g3, g3'⟩ := incLetters p.2.2.1 h.2.2.1.1 r2 (by omega) (by omega)
  obtain ⟨r4, e4, g4, g4'⟩ := incLetters p.2.2.2.1 h.2.2.2.1.1 r3 (by omega) (by omega)
  obtain ⟨r5, e5, g5, g5'⟩ := incTracks p.2.2.2.2.1 h.2.2.2.2.1.1 r4 (by omega) (by omega)
  refine ⟨r5, ?_, by omega⟩
  unfold laws_markPairW
  rw [e1, Option.bind_some, e2, Option.bind_some, e3, Option.bind_some, e4, Option.bind_some, e5]
  rfl
theorem lines_spec (p : TPairx) (tl : TTrack → List UInt8) (h : ∀ t, t ∈ p.2.2.2.2.1 → spec_TrackLine t = some (tl t, ())) : ∀ (N : Nat) (pre rest : List TTrack) (out : List (List UInt8)), p.2.2.2.2.1 = pre ++ rest → (pre ++ rest).length ≤ 1048576 → out.length + rest.length ≤ 1048576 → rest.length < N →
    spec_TrackLines_l1 N p out (pre.length : Int) = some (out ++ rest.map tl, ())
  | 0, _, _, _, _, _, _, h => by omega
  | N + 1, pre, [], out, hp, _, _, _ => by
    unfold spec_TrackLines_l1
    rw [bif_false (dec_false (by rw [hp]; simp))]
    simp
  | N + 1, pre, f :: rest, out, hp, h1, h2, h3 => by
    unfold spec_TrackLines_l1
    simp only [List.length_append, List.length_cons] at h1 h2 h3
    rw [bif_true (dec_true (by rw [hp]; simp; omega)), guardP_pos (by rw [hp]; simp; omega)]
    have e := app_one pre f rest
    have hg : p.2.2.2.2.1.getD ((pre.length : Int).toNat) zTrack = f := by rw [hp]; exact getD_app _ _ _ _
    rw [hg, h f (by rw [hp]; simp)]
    simp only [Option.bind_some]
    rw [guardP_pos (by unfold capN; simp; omega), i64_succ (m := (pre ++ f :: rest).length) (by simp) (by simp; omega)]
    have := lines_spec p tl h N (pre ++ [f]) rest (out ++ [tl f]) (by rw [hp, e]) (by simp; omega) (by simp; omega) (by omega)
    simp only [List.length_append, List.length_cons, List.length_nil, Nat.zero_add] at this
    rw [this]
    simp
theorem lines_impl (tl : TTrack → List UInt8) (l : List TTrack) (h : ∀ t, t ∈ l → impl_TrackLine t = some (tl t, ())) : ∀ (N : Nat) (pre rest : List TTrack) (out : List (List UInt8)), l = pre ++ rest → (pre ++ rest).length ≤ 1048576 → out.length + rest.length ≤ 1048576 → rest.length < N →
    impl_TrackLines_l1 N out l (l.length : Int) (pre.length : Int) = some (out ++ rest.map tl, ())
  | 0, _, _, _, _, _, _, h => by omega
  | N + 1, pre, [], out, hp, _, _, _ => by
    unfold impl_TrackLines_l1
    rw [bif_false (dec_false (by rw [hp]; simp))]
    simp
  | N + 1, pre, f :: rest, out, hp, h1, h2, h3 => by
    unfold impl_TrackLines_l1
    simp only [List.length_append, List.length_cons] at h1 h2 h3
    rw [bif_true (dec_true (by rw [hp]; simp; omega)), guardP_pos (by rw [hp]; simp; omega)]
    have e := app_one pre f rest
    have hg : l.getD ((pre.length : Int).toNat) zTrack = f := by rw [hp]; exact getD_app _ _ _ _
    rw [hg, h f (by rw [hp]; simp)]
    simp only [Option.bind_some]
    rw [guardP_pos (by unfold capN; simp; omega), i64_succ (m := (pre ++ f :: rest).length) (by simp) (by simp; omega)]
    have := lines_impl tl l h N (pre ++ [f]) rest (out ++ [tl f]) (by rw [hp, e]) (by simp; omega) (by simp; omega) (by omega)
    simp only [List.length_append, List.length_cons, List.length_nil, Nat.zero_add] at this
    rw [this]
    simp
theorem lines (p : TPairx) (hl : p.2.2.2.2.1.length ≤ 1048576) (h : ∀ t, t ∈ p.2.2.2.2.1 → t.2.2.1.length ≤ 1048576 ∧ t.2.2.2.1.length ≤ 1048576) : ∃ r, spec_TrackLines p = some (r, ()) ∧ impl_TrackLines p = some (r, ()) ∧ r.length ≤ 1048576 := by
  have h1 : ∀ t : TTrack, ∃ r, t ∈ p.2.2.2.2.1 → spec_TrackLine t = some (r, ()) ∧ impl_TrackLine t = some (r, ()) := fun t => by
    by_cases ht : t ∈ p.2.2.2.2.1
    · obtain ⟨r, e1, e2⟩ := trackLine t (h t ht).1 (h t ht).2
      exact ⟨r, fun _ => ⟨e1, e2⟩⟩
    · exact ⟨[], fun hc => absurd hc ht⟩
  have g1 := lines_spec p (fun t => Classical.choose (h1 t)) (fun t ht => (Classical.choose_spec (h1 t) ht).1) (((p.2.2.2.2.1.length : Int) - 0).toNat + 1) [] p.2.2.2.2.1 [] rfl (by simpa using hl) (by simpa using hl) (by omega)
  have g2 := lines_impl (fun t => Classical.choose (h1 t)) p.2.2.2.2.1 (fun t ht => (Classical.choose_spec (h1 t) ht).2) (((p.2.2.2.2.1.length : Int) - 0).toNat + 1) [] p.2.2.2.2.1 [] rfl (by simpa using hl) (by simpa using hl) (by omega)
  exact ⟨_, g1, g2, by simpa using hl⟩
/-! marks of texts -/
noncomputable def txs (k : Int) : Nat → List (List UInt8)
  | 0 => []
  | n + 1 => tx k :: txs (k + 1) n
theorem txs_len : ∀ (n : Nat) (k : Int), (txs k n).length = n
  | 0, _ => rfl
  | n + 1, k => by simp [txs, txs_len n]
theorem mark_strs : ∀ (m N : Nat) (pre rest : List (List UInt8)) (k : Int), rest.length = m → m < N → (pre ++ rest).length ≤ 1048576 → 0 ≤ k → k + m ≤ 100000000 →
    laws_markStringS_l1 N (pre ++ rest) k (pre.length : Int) = some ((k + m, ()), pre ++ txs k m)
  | m, 0, _, _, _, _, h, _, _, _ => by omega
  | 0, N + 1, pre, rest, k, hr, _, hl, h0, h1 => by
    have : rest = [] := List.eq_nil_of_length_eq_zero hr
    subst this
    unfold laws_markStringS_l1
    rw [bif_false (dec_false (by simp))]
    simp [txs]
  | m + 1, N + 1, pre, x :: rest, k, hr, hN, hl, h0, h1 => by
    simp only [List.length_append, List.length_cons] at hr hl
    unfold laws_markStringS_l1
    rw [bif_true (dec_true (by simp; omega)), mt k (by omega)]
    simp only [Option.bind_some]
    rw [guardP_pos (by simp; omega), i64_ok (n := k + 1) (by omega) (by omega), i64_succ (m := (pre ++ x :: rest).length) (by simp) (by simp; omega)]
    have hset : (pre ++ x :: rest).set (pre.length : Int).toNat (tx k) = pre ++ [tx k] ++ rest := by
      rw [show (pre.length : Int).toNat = pre.length from rfl, List.set_append_right _ _ (Nat.le_refl _)]
      simp
    rw [hset]
    have := mark_strs m N (pre ++ [tx k]) rest (k + 1) (by omega) (by omega) (by simp; omega) (by omega) (by omega)
    simp only [List.length_append, List.length_cons, List.length_nil, Nat.zero_add] at this
    rw [this]
    simp [txs]
    omega
theorem held_strs : ∀ (m N : Nat) (pre : List (List UInt8)) (k : Int), m < N → (pre ++ txs k m).length ≤ 1048576 → 0 ≤ k → k + m ≤ 100000000 →
    laws_heldStringS_l1 N (pre ++ txs k m) k (pre.length : Int) = some (k + m, ())
  | m, 0, _, _, h, _, _, _ => by omega
  | 0, N + 1, pre, k, _, hl, h0, h1 => by
    unfold laws_heldStringS_l1
    rw [bif_false (dec_false (by simp [txs]))]
    simp
  | m + 1, N + 1, pre, k, hN, hl, h0, h1 => by
    have e : txs k (m + 1) = tx k :: txs (k + 1) m := rfl
    rw [e] at hl ⊢
    simp only [List.length_append, List.length_cons, txs_len] at hl
    unfold laws_heldStringS_l1
    rw [bif_true (dec_true (by simp; omega)), guardP_pos (by simp; omega), mt k (by omega)]
    simp only [Option.bind_some, getD_app]
    rw [bif_false (by simp), i64_ok (n := k + 1) (by omega) (by omega), i64_succ (m := (pre ++ tx k :: txs (k + 1) m).length) (by simp) (by simp [txs_len]; omega)]
    have := held_strs m N (pre ++ [tx k]) (k + 1) (by omega) (by simp [txs_len]; omega) (by omega) (by omega)
    simp only [List.length_append, List.length_cons, List.length_nil, Nat.zero_add, List.append_assoc, List.cons_append, List.nil_append] at this
    rw [this]
    congr 2
    omega
theorem markS (l : List (List UInt8)) (h : l.length ≤ 1048576) : laws_markStringS l 1 = some ((1 + (l.length : Int), ()), txs 1 l.length) := by
  have := mark_strs l.length (((l.length : Int) - 0).toNat + 1) [] l 1 rfl (by omega) (by simpa using h) (by omega) (by omega)
  simpa [laws_markStringS, laws_markStringS_l1_fuel] using this
theorem heldS (n : Nat) (h : n ≤ 1048576) : laws_heldStringS (txs 1 n) 1 = some (1 + (n : Int), ()) := by
  have := held_strs n ((((txs 1 n).length : Int) - 0).toNat + 1) [] 1 (by rw [txs_len]; omega) (by simpa [txs_len] using h) (by omega) (by omega)
  simpa [laws_heldStringS, laws_heldStringS_l1_fuel] using this
theorem eqStringS_refl (a : List (List UInt8)) (h : a.length ≤ 1048576) : laws_eqStringS a a = some (true, ()) := by
  unfold laws_eqStringS
  rw [bif_false (by simp)]
  exact eq_loop (d := ([] : List UInt8)) (ne := fun x y => !(x == y)) (by simp) (L := laws_eqStringS_l1) (fun _ _ _ _ => rfl) _ a 0 (by omega) (by omega) (by unfold laws_eqStringS_l1_fuel; omega)
theorem law_true : ∀ xs : dens e_laws_FnExactTrackLines.args, wfA e_laws_FnExactTrackLines.args xs → laws_FnExactTrackLines xs.1 = some (true, ()) := by
  intro ⟨p, _⟩ ⟨hw, _⟩
  obtain ⟨r, hr, _, hs⟩ := sz_laws_szPair p hw 1048576 (by omega) (by omega)
  have hr : laws_szPair p 1048576 = some (r, ()) := hr
  unfold laws_FnExactTrackLines
  simp only [hr, Option.bind_some]
  by_cases h0 : r < 0
  · rw [bif_true (dec_true h0)]
  · rw [bif_false (dec_false h0)]
    have hs := hs (by omega)
    have e := to_laws_toPair p hs
    have e2 := eq_laws_eqPair p hs
    obtain ⟨ls, o1, o2, o3⟩ := lines p hs.2.2.2.2.1.1 fun t ht => ⟨(hs.2.2.2.2.1.2 t ht).2.2.1, (hs.2.2.2.2.1.2 t ht).2.2.2.1⟩
    obtain ⟨k, m1, m2⟩ := incPair (hideV tyPairx p) (small_hide hs)
    have g1 := markS ls o3
    have g2 := heldS ls.length o3
    simp only [e, Option.bind_some, o1, o2, e2, eqStringS_refl _ o3, m1, g1, g2]
    rw [show decide (k < 0) = false from dec_false (by omega), show decide ((1 : Int) + (ls.length : Int) < 0) = false from dec_false (by omega)]
    simp

theorem fnExactTrackLines_own : ownKnob Tryz.prog.godebug = none := by kernel_rfl
theorem fnExactTrackLines_door (os : Os) (args : Array Value) : laidMetH Tryz.prog Rows.fnExactTrackLinesRow.laid ((World.doorLaid Tryz.prog 400 os).forCall (fun _ _ => 0) ⟨#[], args, []⟩).memory :=
  laidMetH_of_parts3 (fuel := 8) (laidMet_of_run' 8 (by kernel_rfl) (by kernel_rfl)) (by kernel_rfl) (by kernel_rfl)
theorem fnExactTrackLines_tab {W : World} (h : laidMetH Tryz.prog Rows.fnExactTrackLinesRow.laid W) : glob.G W := by
  rw [MakeChecks.laidMetH_plain _ _ _ (by kernel_rfl)] at h
  have t0 : Go.Lib.TabIs Tryz.prog W "internal/strconv.uint64pow10" .u64 Go.Lib.pow10Tab :=
    Go.Lib.tabIs_of_head (g := 0) (t := 203) (e := 190) (n := 20) (rest := Rows.fnExactTrackLinesRow.laid.drop 3) (by kernel_rfl) (by kernel_rfl) (by kernel_rfl) (by kernel_rfl) (by kernel_rfl) (by kernel_rfl) (show laidMet Tryz.prog (("internal/strconv.uint64pow10", Go.Lib.tabData .u64 Go.Lib.pow10Tab) :: Rows.fnExactTrackLinesRow.laid.drop 3) W from h.tail.tail)
  intro p hp
  simp only [List.mem_cons, List.not_mem_nil, or_false] at hp
  rcases hp with rfl
  exact t0
set_option maxRecDepth 100000 in
theorem fnExactTrackLines_lifted (os : Os) (started : os.Started) (H : Type) (enc : TypeId × Value → H) :
    ReturnsInHanded {} Tryz.checked os 3 .any (fun w args => (Rows.fnExactTrackLinesSpec.pre enc Tryz.prog Tryz.f3 [] false w args ∧ laidMetH Tryz.prog Rows.fnExactTrackLinesRow.laid w) ∧ sizedMet enc Tryz.prog Tryz.f3 (OpenSpec.ofChange Rows.fnExactTrackLinesSpec) false w args)
      (Rows.fnExactTrackLinesSpec.post enc Tryz.prog Tryz.f3 false true false false) := by
  refine returnsInHanded_of_change_and (C := Tryz.checked) (X := fun w _ => laidMetH Tryz.prog Rows.fnExactTrackLinesRow.laid w) (fun _ _ _ hh h => h.of_heap hh) fnExactTrackLines_own started (by kernel_rfl) Tryz.func3
    (ChangeSpec.witness_shaped (enc := enc) (C := Tryz.checked) (os := os) (X := fun w _ => laidMetH Tryz.prog Rows.fnExactTrackLinesRow.laid w) false (World.doorLaid Tryz.prog 400 os) #[.agg #[.bool false, .int .i64 0, .int .i64 0, .int .i64 0, .int .i64 0, .int .i64 0, .int .i64 0, .int .i64 0, .int .i64 0, .int .i64 0, .int .i64 0, .int .i64 0, .int .i64 0, .int .i64 0, .int .i64 0, .int .i64 0, .int .i64 0, .slice none 0 0, .int .i64 0, .int .i64 0, .int .i64 0, .int .i64 0, .int .i64 0, .int .i64 0, .int .i64 0, .int .i64 0, .int .i64 0, .int .i64 0, .int .i64 0, .int .i64 0, .int .i64 0, .int .i64 0, .int .i64 0, .int .i64 0, .int .i64 0, .int .i64 0, .int .i64 0, .int .i64 0, .int .i64 0, .int .i64 0, .int .i64 0, .int .i64 0, .bool false, .bool false, .bool false, .int .i64 0, .int .i64 0, .slice none 0 0, .int .i64 0, .int .i64 0, .bool false, .int .i64 0, .int .i64 0, .int .i64 0, .int .i64 0, .int .i64 0, .int .i64 0, .int .i64 0, .int .i64 0, .int .i64 0, .int .i64 0, .int .i64 0, .int .i64 0, .int .i64 0, .int .i64 0, .int .i64 0, .int .i64 0, .slice none 0 0, .int .i64 0, .int .i64 0, .int .i64 0, .int .i64 0, .int .i64 0, .int .i64 0, .int .i64 0, .int .i64 0, .int .i64 0, .int .i64 0, .int .i64 0, .int .i64 0, .int .i64 0, .int .i64 0, .int .i64 0, .int .i64 0, .int .i64 0, .int .i64 0, .int .i64 0, .int .i64 0, .int .i64 0, .int .i64 0, .int .i64 0, .int .i64 0, .bool false, .bool false, .bool false, .int .i64 0, .int .i64 0, .slice none 0 0, .int .i64 0, .int .i64 0, .slice none 0 0, .slice none 0 0, .slice none 0 0]] 8 rfl (World.shaped_of_RefB (by kernel_rfl) (by kernel_rfl)) (by kernel_rfl) (by kernel_rfl) (by kernel_rfl) (fnExactTrackLines_door os _)) ?_
  intro W base args ds gs before hval hW _ _ hL _
  exact law_contract ok_laws_FnExactTrackLines law_true rfl (fun H ds h => by
    match ds, h with
    | [d0], _ => rfl) (by kernel_rfl) (by kernel_rfl) rfl Tryz.underlying4 W base args ds gs before hval (fnExactTrackLines_tab hL) hW
theorem fnExactTrackLines_said : Rows.FnExactTrackLinesSaid :=
  OpenClaim.holds_of_wide 3 Tryz.f3 rfl rfl rfl rfl rfl rfl rfl ⟨rfl, rfl, rfl, rfl, rfl⟩ rfl rfl rfl rfl rfl (by kernel_rfl) Tryz.func3 (by kernel_rfl)
    (of_decide_eq_true (by kernel_rfl)) (by unfold Func.isWrapper; first | (rw [if_pos (by decide +kernel)]; kernel_rfl) | (rw [if_neg (by decide +kernel)]; exact ⟨rfl, rfl⟩))
    (fun os started H enc _ => fnExactTrackLines_lifted os started H enc)
/-- The law returns true for all arguments; the tables that the program text lays are tied. -/
theorem fnExactTrackLines_proved : Rows.FnExactTrackLinesCardSaid :=
  Claim7.holds_tied_plain_at .later [] Rows.fnExactTrackLinesCard.laidKinds true Rows.fnExactTrackLinesCard.stood.harness false
    fnExactTrackLines_said (fun _ h => by cases h) (by kernel_rfl) (fun _ h => by cases h) fnExactTrackLines_row_tie rfl ⟨rfl, rfl⟩ (by kernel_rfl) rfl
    (fun f fn hf hfn => by
      obtain rfl : f = 3 := Option.some.inj ((show Tryz.prog.funcNamed Rows.fnExactTrackLinesRow.func = some 3 by kernel_rfl).symm.trans hf) |>.symm
      obtain rfl : fn = Tryz.f3 := (Option.some.inj (Tryz.func3.symm.trans hfn)).symm
      exact ⟨by kernel_rfl, fun j t ht => by
        rw [Tryz.params3] at ht
        have hm : t ∈ [39] := by simpa using Array.mem_of_getElem? ht
        have hall : ([39].all fun u => !Tryz.prog.wantsStandIn u) = true := by kernel_rfl
        exact (show Tryz.prog.wantsStandIn t = false by simpa using List.all_eq_true.1 hall t hm)⟩)
    (by kernel_rfl)
#print axioms fnExactTrackLines_proved
end Go.Proofs.YtdhcpaebmpmihaaGreatDoor

/- FnExactIsFaithful returns true for all arguments. No condition. -/
import Derived.Test.YtckmkhiiobonmaaModExactIsFaithful
import Derived.KernelRfl
namespace Go.Proofs.Ytckmkhiiobonmaa
open Go.Am Go.ChangeShapes Go.WideShapes Go.ChangeAt Go.RowKit
set_option linter.unusedVariables false
theorem sz_laws_szIntS (a : List Int) (hw : wf (.slice 3 (.int .i64)) a) : SzOK (fun left => laws_szIntS a left) (small 1048576 (.slice 3 (.int .i64)) a) := by
  exact SzOK.imp (SzOK.len a hw.1 SzOK.last) (fun h => ⟨h.1, fun _ _ => trivial⟩)

theorem sz_laws_szRing (a : TRing) (hw : wf (tyRing) a) : SzOK (fun left => laws_szRing a left) (small 1048576 (tyRing) a) := by
  exact SzOK.imp (SzOK.seq (sz_laws_szIntS a.2.2.2.1 hw.2.2.2.1) SzOK.last) (fun h => ⟨trivial, ⟨trivial, ⟨trivial, ⟨h.1, trivial⟩⟩⟩⟩)

theorem sz_laws_szRangeS (a : List TRange) (hw : wf (.slice 168 (tyRange)) a) : SzOK (fun left => laws_szRangeS a left) (small 1048576 (.slice 168 (tyRange)) a) := by
  exact SzOK.imp (SzOK.len a hw.1 SzOK.last) (fun h => ⟨h.1, fun _ _ => ⟨trivial, ⟨trivial, trivial⟩⟩⟩)

theorem sz_laws_szSender (a : TSender) (hw : wf (tySender) a) : SzOK (fun left => laws_szSender a left) (small 1048576 (tySender) a) := by
  exact SzOK.imp (SzOK.seq (sz_laws_szRing a.2.1 hw.2.1) (SzOK.seq (sz_laws_szRangeS a.2.2.1 hw.2.2.1) (SzOK.seq (sz_laws_szRangeS a.2.2.2.1 hw.2.2.2.1) (SzOK.seq (sz_laws_szRangeS a.2.2.2.2.1 hw.2.2.2.2.1) SzOK.last)))) (fun h => ⟨trivial, ⟨h.1, ⟨h.2.1, ⟨h.2.2.1, ⟨h.2.2.2.1, ⟨trivial, ⟨trivial, ⟨trivial, ⟨trivial, trivial⟩⟩⟩⟩⟩⟩⟩⟩⟩)

theorem sz_laws_szChunk (a : TLetter) (hw : wf (tyLetter) a) : SzOK (fun left => laws_szChunk a left) (small 1048576 (tyLetter) a) := by
  exact SzOK.imp (SzOK.len a.2.1 hw.2.1 SzOK.last) (fun h => ⟨trivial, ⟨h.1, trivial⟩⟩)

theorem sz_laws_szChunkS (a : List TLetter) (hw : wf (.slice 175 (tyLetter)) a) : SzOK (fun left => laws_szChunkS a left) (small 1048576 (.slice 175 (tyLetter)) a) := by
  exact SzOK.len a hw.1 (SzOK.loop (d := zLetter) (g := laws_szChunk) (L := laws_szChunkS_l1) (fun _ _ _ _ => rfl) (fuel := laws_szChunkS_l1_fuel) (fun a left => by unfold laws_szChunkS_l1_fuel; omega) hw.1 (fun x hx => sz_laws_szChunk x (hw.2 x hx)))

theorem sz_laws_szBuffer (a : TBuffer) (hw : wf (tyBuffer) a) : SzOK (fun left => laws_szBuffer a left) (small 1048576 (tyBuffer) a) := by
  exact SzOK.imp (SzOK.seq (sz_laws_szChunkS a.2.1 hw.2.1) SzOK.last) (fun h => ⟨trivial, ⟨h.1, trivial⟩⟩)

theorem sz_laws_szReceiver (a : TReceiver) (hw : wf (tyReceiver) a) : SzOK (fun left => laws_szReceiver a left) (small 1048576 (tyReceiver) a) := by
  exact SzOK.imp (SzOK.seq (sz_laws_szBuffer a.2.1 hw.2.1) SzOK.last) (fun h => ⟨trivial, ⟨h.1, ⟨trivial, ⟨trivial, ⟨trivial, trivial⟩⟩⟩⟩⟩)

theorem sz_laws_szStream (a : TStream) (hw : wf (tyStream) a) : SzOK (fun left => laws_szStream a left) (small 1048576 (tyStream) a) := by
  exact SzOK.imp (SzOK.seq (sz_laws_szSender a.2.1 hw.2.1) (SzOK.seq (sz_laws_szReceiver a.2.2.2.1 hw.2.2.2.1) SzOK.last)) (fun h => ⟨trivial, ⟨h.1, ⟨⟨trivial, ⟨trivial, ⟨trivial, ⟨trivial, trivial⟩⟩⟩⟩, ⟨h.2.1, ⟨⟨trivial, ⟨trivial, ⟨trivial, ⟨trivial, ⟨trivial, ⟨trivial, trivial⟩⟩⟩⟩⟩⟩, ⟨⟨trivial, ⟨trivial, trivial⟩⟩, ⟨trivial, ⟨trivial, ⟨trivial, ⟨trivial, ⟨trivial, ⟨trivial, ⟨trivial, ⟨trivial, trivial⟩⟩⟩⟩⟩⟩⟩⟩⟩⟩⟩⟩⟩⟩)

theorem sz_laws_szStreamS (a : List TStream) (hw : wf (.slice 112 (tyStream)) a) : SzOK (fun left => laws_szStreamS a left) (small 1048576 (.slice 112 (tyStream)) a) := by
  exact SzOK.len a hw.1 (SzOK.loop (d := zStream) (g := laws_szStream) (L := laws_szStreamS_l1) (fun _ _ _ _ => rfl) (fuel := laws_szStreamS_l1_fuel) (fun a left => by unfold laws_szStreamS_l1_fuel; omega) hw.1 (fun x hx => sz_laws_szStream x (hw.2 x hx)))

theorem sz_laws_szFrame (a : TFrame) (hw : wf (tyFrame) a) : SzOK (fun left => laws_szFrame a left) (small 1048576 (tyFrame) a) := by
  exact SzOK.imp (SzOK.len a.2.2.2.1 hw.2.2.2.1 SzOK.last) (fun h => ⟨trivial, ⟨trivial, ⟨trivial, ⟨h.1, ⟨trivial, ⟨trivial, ⟨trivial, ⟨trivial, ⟨trivial, trivial⟩⟩⟩⟩⟩⟩⟩⟩⟩)

theorem sz_laws_szFrameS (a : List TFrame) (hw : wf (.slice 152 (tyFrame)) a) : SzOK (fun left => laws_szFrameS a left) (small 1048576 (.slice 152 (tyFrame)) a) := by
  exact SzOK.len a hw.1 (SzOK.loop (d := zFrame) (g := laws_szFrame) (L := laws_szFrameS_l1) (fun _ _ _ _ => rfl) (fuel := laws_szFrameS_l1_fuel) (fun a left => by unfold laws_szFrameS_l1_fuel; omega) hw.1 (fun x hx => sz_laws_szFrame x (hw.2 x hx)))

theorem sz_laws_szPacket (a : TPacket) (hw : wf (tyPacket) a) : SzOK (fun left => laws_szPacket a left) (small 1048576 (tyPacket) a) := by
  exact SzOK.imp (SzOK.seq (sz_laws_szFrameS a.2.1 hw.2.1) SzOK.last) (fun h => ⟨trivial, ⟨h.1, trivial⟩⟩)

theorem sz_laws_szPacketS (a : List TPacket) (hw : wf (.slice 116 (tyPacket)) a) : SzOK (fun left => laws_szPacketS a left) (small 1048576 (.slice 116 (tyPacket)) a) := by
  exact SzOK.len a hw.1 (SzOK.loop (d := zPacket) (g := laws_szPacket) (L := laws_szPacketS_l1) (fun _ _ _ _ => rfl) (fuel := laws_szPacketS_l1_fuel) (fun a left => by unfold laws_szPacketS_l1_fuel; omega) hw.1 (fun x hx => sz_laws_szPacket x (hw.2 x hx)))

theorem sz_laws_szConn (a : TConn) (hw : wf (tyConn) a) : SzOK (fun left => laws_szConn a left) (small 1048576 (tyConn) a) := by
  exact SzOK.imp (SzOK.seq (sz_laws_szStreamS a.2.2.2.1 hw.2.2.2.1) (SzOK.seq (sz_laws_szPacketS a.2.2.2.2.2.2.2.2.2.2.2.2.2.2.2.1 hw.2.2.2.2.2.2.2.2.2.2.2.2.2.2.2.1) SzOK.last)) (fun h => ⟨trivial, ⟨⟨trivial, ⟨trivial, ⟨trivial, ⟨trivial, ⟨trivial, ⟨trivial, ⟨trivial, ⟨trivial, trivial⟩⟩⟩⟩⟩⟩⟩⟩, ⟨⟨trivial, ⟨trivial, ⟨trivial, ⟨trivial, ⟨trivial, ⟨trivial, ⟨trivial, ⟨trivial, trivial⟩⟩⟩⟩⟩⟩⟩⟩, ⟨h.1, ⟨⟨trivial, ⟨trivial, ⟨trivial, ⟨trivial, trivial⟩⟩⟩⟩, ⟨⟨trivial, ⟨trivial, ⟨trivial, ⟨trivial, ⟨trivial, ⟨trivial, trivial⟩⟩⟩⟩⟩⟩, ⟨⟨trivial, ⟨trivial, ⟨trivial, trivial⟩⟩⟩, ⟨⟨trivial, ⟨trivial, ⟨trivial, trivial⟩⟩⟩, ⟨⟨trivial, ⟨trivial, ⟨trivial, ⟨trivial, trivial⟩⟩⟩⟩, ⟨⟨trivial, ⟨trivial, ⟨trivial, ⟨trivial, trivial⟩⟩⟩⟩, ⟨trivial, ⟨trivial, ⟨trivial, ⟨trivial, ⟨trivial, ⟨h.2.1, ⟨trivial, ⟨trivial, trivial⟩⟩⟩⟩⟩⟩⟩⟩⟩⟩⟩⟩⟩⟩⟩⟩⟩⟩)

theorem sz_laws_szLetter (a : TLetter) (hw : wf (tyLetter) a) : SzOK (fun left => laws_szLetter a left) (small 1048576 (tyLetter) a) := by
  exact SzOK.imp (SzOK.len a.2.1 hw.2.1 SzOK.last) (fun h => ⟨trivial, ⟨h.1, trivial⟩⟩)

theorem sz_laws_szLetterS (a : List TLetter) (hw : wf (.slice 75 (tyLetter)) a) : SzOK (fun left => laws_szLetterS a left) (small 1048576 (.slice 75 (tyLetter)) a) := by
  exact SzOK.len a hw.1 (SzOK.loop (d := zLetter) (g := laws_szLetter) (L := laws_szLetterS_l1) (fun _ _ _ _ => rfl) (fuel := laws_szLetterS_l1_fuel) (fun a left => by unfold laws_szLetterS_l1_fuel; omega) hw.1 (fun x hx => sz_laws_szLetter x (hw.2 x hx)))

theorem sz_laws_szTrack (a : TTrack) (hw : wf (tyTrack) a) : SzOK (fun left => laws_szTrack a left) (small 1048576 (tyTrack) a) := by
  exact SzOK.imp (SzOK.len a.2.2.1 hw.2.2.1 (SzOK.len a.2.2.2.1 hw.2.2.2.1 SzOK.last)) (fun h => ⟨trivial, ⟨trivial, ⟨h.1, ⟨h.2.1, ⟨trivial, ⟨trivial, ⟨trivial, trivial⟩⟩⟩⟩⟩⟩⟩)

theorem sz_laws_szTrackS (a : List TTrack) (hw : wf (.slice 77 (tyTrack)) a) : SzOK (fun left => laws_szTrackS a left) (small 1048576 (.slice 77 (tyTrack)) a) := by
  exact SzOK.len a hw.1 (SzOK.loop (d := zTrack) (g := laws_szTrack) (L := laws_szTrackS_l1) (fun _ _ _ _ => rfl) (fuel := laws_szTrackS_l1_fuel) (fun a left => by unfold laws_szTrackS_l1_fuel; omega) hw.1 (fun x hx => sz_laws_szTrack x (hw.2 x hx)))

theorem sz_laws_szPair (a : TPair) (hw : wf (tyPair) a) : SzOK (fun left => laws_szPair a left) (small 1048576 (tyPair) a) := by
  exact SzOK.imp (SzOK.seq (sz_laws_szConn a.1 hw.1) (SzOK.seq (sz_laws_szConn a.2.1 hw.2.1) (SzOK.seq (sz_laws_szLetterS a.2.2.1 hw.2.2.1) (SzOK.seq (sz_laws_szLetterS a.2.2.2.1 hw.2.2.2.1) (SzOK.seq (sz_laws_szTrackS a.2.2.2.2.1 hw.2.2.2.2.1) SzOK.last))))) (fun h => ⟨h.1, ⟨h.2.1, ⟨h.2.2.1, ⟨h.2.2.2.1, ⟨h.2.2.2.2.1, trivial⟩⟩⟩⟩⟩)

theorem to_laws_toConf (a : TConf) (h : small 1048576 (tyConf) a) : laws_toConf a = some (a, ()) := by
  rfl

theorem to_laws_toIntS (a : List Int) (h : small 1048576 (.slice 3 (.int .i64)) a) : laws_toIntS a = some (a, ()) := by
  unfold laws_toIntS
  have hl := h.1
  simp only []
  rw [guardP_pos (by unfold capN; omega)]
  exact copy_loop (d := (0 : Int)) (L := laws_toIntS_l1) (fun _ _ _ _ => rfl) _ a _ 0 (by omega) (by simp) (by omega) (by simp) (by unfold laws_toIntS_l1_fuel; omega)

theorem to_laws_toRing (a : TRing) (h : small 1048576 (tyRing) a) : laws_toRing a = some (a, ()) := by
  unfold laws_toRing
  simp only [to_laws_toIntS a.2.2.2.1 h.2.2.2.1, Option.bind_some]

theorem to_laws_toRange (a : TRange) (h : small 1048576 (tyRange) a) : laws_toRange a = some (a, ()) := by
  rfl

theorem to_laws_toRangeS (a : List TRange) (h : small 1048576 (.slice 168 (tyRange)) a) : laws_toRangeS a = some (a, ()) := by
  unfold laws_toRangeS
  have hl := h.1
  simp only []
  rw [guardP_pos (by unfold capN; omega)]
  exact copy_loop_by (d := zRange) (g := laws_toRange) (ok := small 1048576 (tyRange)) to_laws_toRange (L := laws_toRangeS_l1) (fun _ _ _ _ => rfl) _ a _ 0 h.2 (by omega) (by simp) (by omega) (by simp) (by unfold laws_toRangeS_l1_fuel; omega)

theorem to_laws_toSender (a : TSender) (h : small 1048576 (tySender) a) : laws_toSender a = some (a, ()) := by
  unfold laws_toSender
  simp only [to_laws_toRing a.2.1 h.2.1, to_laws_toRangeS a.2.2.1 h.2.2.1, to_laws_toRangeS a.2.2.2.1 h.2.2.2.1, to_laws_toRangeS a.2.2.2.2.1 h.2.2.2.2.1, Option.bind_some]

theorem to_laws_toCredit (a : TAllow) (h : small 1048576 (tyAllow) a) : laws_toCredit a = some (a, ()) := by
  rfl

theorem to_laws_toChunk (a : TLetter) (h : small 1048576 (tyLetter) a) : laws_toChunk a = some (a, ()) := by
  rfl

theorem to_laws_toChunkS (a : List TLetter) (h : small 1048576 (.slice 175 (tyLetter)) a) : laws_toChunkS a = some (a, ()) := by
  unfold laws_toChunkS
  have hl := h.1
  simp only []
  rw [guardP_pos (by unfold capN; omega)]
  exact copy_loop_by (d := zLetter) (g := laws_toChunk) (ok := small 1048576 (tyLetter)) to_laws_toChunk (L := laws_toChunkS_l1) (fun _ _ _ _ => rfl) _ a _ 0 h.2 (by omega) (by simp) (by omega) (by simp) (by unfold laws_toChunkS_l1_fuel; omega)

theorem to_laws_toBuffer (a : TBuffer) (h : small 1048576 (tyBuffer) a) : laws_toBuffer a = some (a, ()) := by
  unfold laws_toBuffer
  simp only [to_laws_toChunkS a.2.1 h.2.1, Option.bind_some]

theorem to_laws_toReceiver (a : TReceiver) (h : small 1048576 (tyReceiver) a) : laws_toReceiver a = some (a, ()) := by
  unfold laws_toReceiver
  simp only [to_laws_toBuffer a.2.1 h.2.1, Option.bind_some]

theorem to_laws_toWindow (a : TWindow) (h : small 1048576 (tyWindow) a) : laws_toWindow a = some (a, ()) := by
  rfl

theorem to_laws_toPriority (a : TPriority) (h : small 1048576 (tyPriority) a) : laws_toPriority a = some (a, ()) := by
  rfl

theorem to_laws_toStream (a : TStream) (h : small 1048576 (tyStream) a) : laws_toStream a = some (a, ()) := by
  unfold laws_toStream
  simp only [to_laws_toSender a.2.1 h.2.1, to_laws_toCredit a.2.2.1 h.2.2.1, to_laws_toReceiver a.2.2.2.1 h.2.2.2.1, to_laws_toWindow a.2.2.2.2.1 h.2.2.2.2.1, to_laws_toPriority a.2.2.2.2.2.1 h.2.2.2.2.2.1, Option.bind_some]

theorem to_laws_toStreamS (a : List TStream) (h : small 1048576 (.slice 112 (tyStream)) a) : laws_toStreamS a = some (a, ()) := by
  unfold laws_toStreamS
  have hl := h.1
  simp only []
  rw [guardP_pos (by unfold capN; omega)]
  exact copy_loop_by (d := zStream) (g := laws_toStream) (ok := small 1048576 (tyStream)) to_laws_toStream (L := laws_toStreamS_l1) (fun _ _ _ _ => rfl) _ a _ 0 h.2 (by omega) (by simp) (by omega) (by simp) (by unfold laws_toStreamS_l1_fuel; omega)

theorem to_laws_toCount (a : TCount) (h : small 1048576 (tyCount) a) : laws_toCount a = some (a, ()) := by
  rfl

theorem to_laws_toAllow (a : TAllow) (h : small 1048576 (tyAllow) a) : laws_toAllow a = some (a, ()) := by
  rfl

theorem to_laws_toFrame (a : TFrame) (h : small 1048576 (tyFrame) a) : laws_toFrame a = some (a, ()) := by
  rfl

theorem to_laws_toFrameS (a : List TFrame) (h : small 1048576 (.slice 152 (tyFrame)) a) : laws_toFrameS a = some (a, ()) := by
  unfold laws_toFrameS
  have hl := h.1
  simp only []
  rw [guardP_pos (by unfold capN; omega)]
  exact copy_loop_by (d := zFrame) (g := laws_toFrame) (ok := small 1048576 (tyFrame)) to_laws_toFrame (L := laws_toFrameS_l1) (fun _ _ _ _ => rfl) _ a _ 0 h.2 (by omega) (by simp) (by omega) (by simp) (by unfold laws_toFrameS_l1_fuel; omega)

theorem to_laws_toPacket (a : TPacket) (h : small 1048576 (tyPacket) a) : laws_toPacket a = some (a, ()) := by
  unfold laws_toPacket
  simp only [to_laws_toFrameS a.2.1 h.2.1, Option.bind_some]

theorem to_laws_toPacketS (a : List TPacket) (h : small 1048576 (.slice 116 (tyPacket)) a) : laws_toPacketS a = some (a, ()) := by
  unfold laws_toPacketS
  have hl := h.1
  simp only []
  rw [guardP_pos (by unfold capN; omega)]
  exact copy_loop_by (d := zPacket) (g := laws_toPacket) (ok := small 1048576 (tyPacket)) to_laws_toPacket (L := laws_toPacketS_l1) (fun _ _ _ _ => rfl) _ a _ 0 h.2 (by omega) (by simp) (by omega) (by simp) (by unfold laws_toPacketS_l1_fuel; omega)

theorem to_laws_toConn (a : TConn) (h : small 1048576 (tyConn) a) : laws_toConn a = some (a, ()) := by
  unfold laws_toConn
  simp only [to_laws_toConf a.2.1 h.2.1, to_laws_toConf a.2.2.1 h.2.2.1, to_laws_toStreamS a.2.2.2.1 h.2.2.2.1, to_laws_toCredit a.2.2.2.2.1 h.2.2.2.2.1, to_laws_toWindow a.2.2.2.2.2.1 h.2.2.2.2.2.1, to_laws_toCount a.2.2.2.2.2.2.1 h.2.2.2.2.2.2.1, to_laws_toCount a.2.2.2.2.2.2.2.1 h.2.2.2.2.2.2.2.1, to_laws_toAllow a.2.2.2.2.2.2.2.2.1 h.2.2.2.2.2.2.2.2.1, to_laws_toAllow a.2.2.2.2.2.2.2.2.2.1 h.2.2.2.2.2.2.2.2.2.1, to_laws_toPacketS a.2.2.2.2.2.2.2.2.2.2.2.2.2.2.2.1 h.2.2.2.2.2.2.2.2.2.2.2.2.2.2.2.1, Option.bind_some]

theorem to_laws_toLetter (a : TLetter) (h : small 1048576 (tyLetter) a) : laws_toLetter a = some (a, ()) := by
  rfl

theorem to_laws_toLetterS (a : List TLetter) (h : small 1048576 (.slice 75 (tyLetter)) a) : laws_toLetterS a = some (a, ()) := by
  unfold laws_toLetterS
  have hl := h.1
  simp only []
  rw [guardP_pos (by unfold capN; omega)]
  exact copy_loop_by (d := zLetter) (g := laws_toLetter) (ok := small 1048576 (tyLetter)) to_laws_toLetter (L := laws_toLetterS_l1) (fun _ _ _ _ => rfl) _ a _ 0 h.2 (by omega) (by simp) (by omega) (by simp) (by unfold laws_toLetterS_l1_fuel; omega)

theorem to_laws_toTrack (a : TTrack) (h : small 1048576 (tyTrack) a) : laws_toTrack a = some (a, ()) := by
  rfl

theorem to_laws_toTrackS (a : List TTrack) (h : small 1048576 (.slice 77 (tyTrack)) a) : laws_toTrackS a = some (a, ()) := by
  unfold laws_toTrackS
  have hl := h.1
  simp only []
  rw [guardP_pos (by unfold capN; omega)]
  exact copy_loop_by (d := zTrack) (g := laws_toTrack) (ok := small 1048576 (tyTrack)) to_laws_toTrack (L := laws_toTrackS_l1) (fun _ _ _ _ => rfl) _ a _ 0 h.2 (by omega) (by simp) (by omega) (by simp) (by unfold laws_toTrackS_l1_fuel; omega)

theorem to_laws_toPair (a : TPair) (h : small 1048576 (tyPair) a) : laws_toPair a = some (a, ()) := by
  unfold laws_toPair
  simp only [to_laws_toConn a.1 h.1, to_laws_toConn a.2.1 h.2.1, to_laws_toLetterS a.2.2.1 h.2.2.1, to_laws_toLetterS a.2.2.2.1 h.2.2.2.1, to_laws_toTrackS a.2.2.2.2.1 h.2.2.2.2.1, Option.bind_some]

theorem eq_laws_eqConf (a : TConf) (h : small 1048576 (tyConf) a) : laws_eqConf a a = some (true, ()) := by
  unfold laws_eqConf
  simp only [bne_self_eq_false, cond_false]

theorem eq_laws_eqIntS (a : List Int) (h : small 1048576 (.slice 3 (.int .i64)) a) : laws_eqIntS a a = some (true, ()) := by
  unfold laws_eqIntS
  have hl := h.1
  rw [bif_false (by simp)]
  exact eq_loop (d := (0 : Int)) (ne := fun x y => x != y) (by simp) (L := laws_eqIntS_l1) (fun _ _ _ _ => rfl) _ a 0 (by omega) (by omega) (by unfold laws_eqIntS_l1_fuel; omega)

theorem eq_laws_eqRing (a : TRing) (h : small 1048576 (tyRing) a) : laws_eqRing a a = some (true, ()) := by
  unfold laws_eqRing
  simp only [eq_laws_eqIntS a.2.2.2.1 h.2.2.2.1, bne_self_eq_false, Bool.not_true, cond_false, Option.bind_some]

theorem eq_laws_eqRange (a : TRange) (h : small 1048576 (tyRange) a) : laws_eqRange a a = some (true, ()) := by
  unfold laws_eqRange
  simp only [bne_self_eq_false, cond_false]

theorem eq_laws_eqRangeS (a : List TRange) (h : small 1048576 (.slice 166 (tyRange)) a) : laws_eqRangeS a a = some (true, ()) := by
  unfold laws_eqRangeS
  have hl := h.1
  rw [bif_false (by simp)]
  exact eq_loop_in (d := zRange) (g := laws_eqRange) (L := laws_eqRangeS_l1) (fun _ _ _ _ => rfl) _ a 0 (fun x hx => eq_laws_eqRange x (h.2 x hx)) (by omega) (by omega) (by unfold laws_eqRangeS_l1_fuel; omega)

theorem eq_laws_eqSender (a : TSenderx) (h : small 1048576 (tySenderx) a) : laws_eqSender a a = some (true, ()) := by
  unfold laws_eqSender
  simp only [eq_laws_eqRing a.2.1 h.2.1, eq_laws_eqRangeS a.2.2.1 h.2.2.1, eq_laws_eqRangeS a.2.2.2.1 h.2.2.2.1, eq_laws_eqRangeS a.2.2.2.2.1 h.2.2.2.2.1, bne_self_eq_false, Bool.not_true, cond_false, Option.bind_some]

theorem eq_laws_eqCredit (a : TAllow) (h : small 1048576 (tyAllow) a) : laws_eqCredit a a = some (true, ()) := by
  unfold laws_eqCredit
  simp only [bne_self_eq_false, cond_false]

theorem eq_laws_eqChunk (a : TLetter) (h : small 1048576 (tyLetter) a) : laws_eqChunk a a = some (true, ()) := by
  unfold laws_eqChunk
  simp only [bne_self_eq_false, beq_self_eq_true, Bool.not_true, cond_false]

theorem eq_laws_eqChunkS (a : List TLetter) (h : small 1048576 (.slice 176 (tyLetter)) a) : laws_eqChunkS a a = some (true, ()) := by
  unfold laws_eqChunkS
  have hl := h.1
  rw [bif_false (by simp)]
  exact eq_loop_in (d := zLetter) (g := laws_eqChunk) (L := laws_eqChunkS_l1) (fun _ _ _ _ => rfl) _ a 0 (fun x hx => eq_laws_eqChunk x (h.2 x hx)) (by omega) (by omega) (by unfold laws_eqChunkS_l1_fuel; omega)

theorem eq_laws_eqBuffer (a : TBufferx) (h : small 1048576 (tyBufferx) a) : laws_eqBuffer a a = some (true, ()) := by
  unfold laws_eqBuffer
  simp only [eq_laws_eqChunkS a.2.1 h.2.1, bne_self_eq_false, Bool.not_true, cond_false, Option.bind_some]

theorem eq_laws_eqReceiver (a : TReceiverx) (h : small 1048576 (tyReceiverx) a) : laws_eqReceiver a a = some (true, ()) := by
  unfold laws_eqReceiver
  simp only [eq_laws_eqBuffer a.2.1 h.2.1, bne_self_eq_false, Bool.not_true, cond_false, Option.bind_some]

theorem eq_laws_eqWindow (a : TWindow) (h : small 1048576 (tyWindow) a) : laws_eqWindow a a = some (true, ()) := by
  unfold laws_eqWindow
  simp only [bne_self_eq_false, cond_false]

theorem eq_laws_eqPriority (a : TPriority) (h : small 1048576 (tyPriority) a) : laws_eqPriority a a = some (true, ()) := by
  unfold laws_eqPriority
  simp only [bne_self_eq_false, beq_self_eq_true, Bool.not_true, cond_false]

theorem eq_laws_eqStream (a : TStreamx) (h : small 1048576 (tyStreamx) a) : laws_eqStream a a = some (true, ()) := by
  unfold laws_eqStream
  simp only [eq_laws_eqSender a.2.1 h.2.1, eq_laws_eqCredit a.2.2.1 h.2.2.1, eq_laws_eqReceiver a.2.2.2.1 h.2.2.2.1, eq_laws_eqWindow a.2.2.2.2.1 h.2.2.2.2.1, eq_laws_eqPriority a.2.2.2.2.2.1 h.2.2.2.2.2.1, bne_self_eq_false, beq_self_eq_true, Bool.not_true, cond_false, Option.bind_some]

theorem eq_laws_eqStreamS (a : List TStreamx) (h : small 1048576 (.slice 128 (tyStreamx)) a) : laws_eqStreamS a a = some (true, ()) := by
  unfold laws_eqStreamS
  have hl := h.1
  rw [bif_false (by simp)]
  exact eq_loop_in (d := zStreamx) (g := laws_eqStream) (L := laws_eqStreamS_l1) (fun _ _ _ _ => rfl) _ a 0 (fun x hx => eq_laws_eqStream x (h.2 x hx)) (by omega) (by omega) (by unfold laws_eqStreamS_l1_fuel; omega)

theorem eq_laws_eqCount (a : TCount) (h : small 1048576 (tyCount) a) : laws_eqCount a a = some (true, ()) := by
  unfold laws_eqCount
  simp only [bne_self_eq_false, cond_false]

theorem eq_laws_eqAllow (a : TAllow) (h : small 1048576 (tyAllow) a) : laws_eqAllow a a = some (true, ()) := by
  unfold laws_eqAllow
  simp only [bne_self_eq_false, cond_false]

theorem eq_laws_eqFrame (a : TFrame) (h : small 1048576 (tyFrame) a) : laws_eqFrame a a = some (true, ()) := by
  unfold laws_eqFrame
  simp only [bne_self_eq_false, beq_self_eq_true, Bool.not_true, cond_false]

theorem eq_laws_eqFrameS (a : List TFrame) (h : small 1048576 (.slice 156 (tyFrame)) a) : laws_eqFrameS a a = some (true, ()) := by
  unfold laws_eqFrameS
  have hl := h.1
  rw [bif_false (by simp)]
  exact eq_loop_in (d := zFrame) (g := laws_eqFrame) (L := laws_eqFrameS_l1) (fun _ _ _ _ => rfl) _ a 0 (fun x hx => eq_laws_eqFrame x (h.2 x hx)) (by omega) (by omega) (by unfold laws_eqFrameS_l1_fuel; omega)

theorem eq_laws_eqPacket (a : TPacketx) (h : small 1048576 (tyPacketx) a) : laws_eqPacket a a = some (true, ()) := by
  unfold laws_eqPacket
  simp only [eq_laws_eqFrameS a.2.1 h.2.1, bne_self_eq_false, Bool.not_true, cond_false, Option.bind_some]

theorem eq_laws_eqPacketS (a : List TPacketx) (h : small 1048576 (.slice 132 (tyPacketx)) a) : laws_eqPacketS a a = some (true, ()) := by
  unfold laws_eqPacketS
  have hl := h.1
  rw [bif_false (by simp)]
  exact eq_loop_in (d := zPacketx) (g := laws_eqPacket) (L := laws_eqPacketS_l1) (fun _ _ _ _ => rfl) _ a 0 (fun x hx => eq_laws_eqPacket x (h.2 x hx)) (by omega) (by omega) (by unfold laws_eqPacketS_l1_fuel; omega)

theorem eq_laws_eqConn (a : TConnx) (h : small 1048576 (tyConnx) a) : laws_eqConn a a = some (true, ()) := by
  unfold laws_eqConn
  simp only [eq_laws_eqConf a.2.1 h.2.1, eq_laws_eqConf a.2.2.1 h.2.2.1, eq_laws_eqStreamS a.2.2.2.1 h.2.2.2.1, eq_laws_eqCredit a.2.2.2.2.1 h.2.2.2.2.1, eq_laws_eqWindow a.2.2.2.2.2.1 h.2.2.2.2.2.1, eq_laws_eqCount a.2.2.2.2.2.2.1 h.2.2.2.2.2.2.1, eq_laws_eqCount a.2.2.2.2.2.2.2.1 h.2.2.2.2.2.2.2.1, eq_laws_eqAllow a.2.2.2.2.2.2.2.2.1 h.2.2.2.2.2.2.2.2.1, eq_laws_eqAllow a.2.2.2.2.2.2.2.2.2.1 h.2.2.2.2.2.2.2.2.2.1, eq_laws_eqPacketS a.2.2.2.2.2.2.2.2.2.2.2.2.2.2.2.1 h.2.2.2.2.2.2.2.2.2.2.2.2.2.2.2.1, bne_self_eq_false, beq_self_eq_true, Bool.not_true, cond_false, Option.bind_some]

theorem eq_laws_eqLetter (a : TLetter) (h : small 1048576 (tyLetter) a) : laws_eqLetter a a = some (true, ()) := by
  unfold laws_eqLetter
  simp only [bne_self_eq_false, beq_self_eq_true, Bool.not_true, cond_false]

theorem eq_laws_eqLetterS (a : List TLetter) (h : small 1048576 (.slice 85 (tyLetter)) a) : laws_eqLetterS a a = some (true, ()) := by
  unfold laws_eqLetterS
  have hl := h.1
  rw [bif_false (by simp)]
  exact eq_loop_in (d := zLetter) (g := laws_eqLetter) (L := laws_eqLetterS_l1) (fun _ _ _ _ => rfl) _ a 0 (fun x hx => eq_laws_eqLetter x (h.2 x hx)) (by omega) (by omega) (by unfold laws_eqLetterS_l1_fuel; omega)

theorem eq_laws_eqTrack (a : TTrack) (h : small 1048576 (tyTrack) a) : laws_eqTrack a a = some (true, ()) := by
  unfold laws_eqTrack
  simp only [bne_self_eq_false, beq_self_eq_true, Bool.not_true, cond_false]

theorem eq_laws_eqTrackS (a : List TTrack) (h : small 1048576 (.slice 63 (tyTrack)) a) : laws_eqTrackS a a = some (true, ()) := by
  unfold laws_eqTrackS
  have hl := h.1
  rw [bif_false (by simp)]
  exact eq_loop_in (d := zTrack) (g := laws_eqTrack) (L := laws_eqTrackS_l1) (fun _ _ _ _ => rfl) _ a 0 (fun x hx => eq_laws_eqTrack x (h.2 x hx)) (by omega) (by omega) (by unfold laws_eqTrackS_l1_fuel; omega)

theorem eq_laws_eqPair (a : TPairx) (h : small 1048576 (tyPairx) a) : laws_eqPair a a = some (true, ()) := by
  unfold laws_eqPair
  simp only [eq_laws_eqConn a.1 h.1, eq_laws_eqConn a.2.1 h.2.1, eq_laws_eqLetterS a.2.2.1 h.2.2.1, eq_laws_eqLetterS a.2.2.2.1 h.2.2.2.1, eq_laws_eqTrackS a.2.2.2.2.1 h.2.2.2.2.1, Bool.not_true, cond_false, Option.bind_some]

theorem bif_some1 {α : Type} {c : Bool} {x y : α} : (bif c then some (x, ()) else some (y, ())) = some (bif c then x else y, ()) := by cases c <;> rfl
theorem isPrefix_some (a b : List UInt8) : ∃ r, spec_IsPrefixOf a b = some (r, ()) ∧ impl_IsPrefixOf a b = some (r, ()) := by
  unfold spec_IsPrefixOf impl_IsPrefixOf strings_HasPrefix stringslite_HasPrefix
  simp only []
  rw [guardP_pos (fun h => by simp only [decide_eq_true_eq] at h; omega)]
  exact ⟨_, rfl, rfl⟩
theorem unfaithful_loop : ∀ (N : Nat) (p : TPairx) (i : Nat), p.2.2.2.2.1.length ≤ 1048576 → i ≤ p.2.2.2.2.1.length → p.2.2.2.2.1.length - i < N →
    ∃ r, spec_FirstUnfaithful_l1 N p i = some (r, ()) ∧ impl_FirstUnfaithful_l1 N p.2.2.2.2.1 (p.2.2.2.2.1.length : Int) i = some (r, ()) ∧ (r = -1 ∨ 0 ≤ r)
  | 0, _, _, _, _, h => by omega
  | N + 1, p, i, hl, hi, hN => by
    unfold spec_FirstUnfaithful_l1 impl_FirstUnfaithful_l1
    by_cases h : i < p.2.2.2.2.1.length
    · simp only [bif_true (dec_true (show (i : Int) < (p.2.2.2.2.1.length : Int) by omega))]
      obtain ⟨q, hq, hq'⟩ := isPrefix_some (p.2.2.2.2.1.getD (i : Int).toNat zTrack).2.2.2.1 (p.2.2.2.2.1.getD (i : Int).toNat zTrack).2.2.1
      rw [guardP_pos (by omega), guardP_pos (by omega), i64_succ h (by omega), hq, hq']
      simp only [Option.bind_some]
      obtain ⟨r, h1, h2, h3⟩ := unfaithful_loop N p (i + 1) hl h (by omega)
      rw [h1, h2]
      generalize ((!q) || _) = c
      cases c
      · exact ⟨r, rfl, rfl, h3⟩
      · exact ⟨(i : Int), rfl, rfl, by omega⟩
    · simp only [bif_false (dec_false (show ¬ (i : Int) < (p.2.2.2.2.1.length : Int) by omega))]
      exact ⟨-1, rfl, rfl, .inl rfl⟩
theorem unfaithful (p : TPairx) (hl : p.2.2.2.2.1.length ≤ 1048576) : ∃ r, spec_FirstUnfaithful p = some (r, ()) ∧ impl_FirstUnfaithful p = some (r, ()) ∧ (r = -1 ∨ 0 ≤ r) := by
  obtain ⟨r, h1, h2, h3⟩ := unfaithful_loop (((p.2.2.2.2.1.length : Int) - 0).toNat + 1) p 0 hl (by omega) (by omega)
  exact ⟨r, h1, h2, h3⟩
theorem core (p : TPairx) (hl : p.2.2.2.2.1.length ≤ 1048576) : ∃ r, spec_IsFaithful p = some (r, ()) ∧ impl_IsFaithful p = some (r, ()) := by
  obtain ⟨r, h1, h2, h3⟩ := unfaithful p hl
  unfold spec_IsFaithful impl_IsFaithful
  rw [h1, h2]
  refine ⟨decide (r < 0), rfl, ?_⟩
  have e : (r == (-1 : Int)) = decide (r < 0) := by
    rcases h3 with h | h
    · subst h; rfl
    · rw [dec_false (by omega), beq_eq_false_iff_ne]; omega
  rw [Option.bind_some, e]
theorem law_true : ∀ xs : dens e_laws_FnExactIsFaithful.args, wfA e_laws_FnExactIsFaithful.args xs → laws_FnExactIsFaithful xs.1 = some (true, ()) := by
  intro xs hw
  obtain ⟨hw1, _⟩ := hw
  unfold laws_FnExactIsFaithful
  obtain ⟨r, h1, _, h3⟩ := sz_laws_szPair xs.1 hw1 1048576 (by omega) (by omega)
  have h1 : laws_szPair xs.1 1048576 = some (r, ()) := h1
  rw [h1]
  simp only [Option.bind_some]
  by_cases h : r < 0
  · rw [bif_true (dec_true h)]
  · rw [bif_false (dec_false h)]
    have hs := h3 (by omega)
    obtain ⟨m, e1, e2⟩ := core xs.1 hs.2.2.2.2.1.1
    have eq := eq_laws_eqPair xs.1 hs
    simp only [to_laws_toPair _ hs, Option.bind_some, e1, e2, eq]
    simp


theorem fnExactIsFaithful_own : ownKnob Try.prog.godebug = none := by kernel_rfl
set_option maxRecDepth 100000 in
theorem fnExactIsFaithful_lifted (os : Os) (started : os.Started) (H : Type) (enc : TypeId × Value → H) :
    ReturnsInHanded {} Try.checked os 6 .any (Rows.fnExactIsFaithfulSpec.pre6 enc Try.prog Try.f6 Rows.fnExactIsFaithfulRow.domain false) (Rows.fnExactIsFaithfulSpec.post enc Try.prog Try.f6 false true false false) := by
  refine returnsInHanded_of_change (C := Try.checked) fnExactIsFaithful_own started (by kernel_rfl) Try.func6
    (ChangeSpec.witness6 (enc := enc) (C := Try.checked) false ⟨#[], #[.agg #[.bool false, .int .i64 0, .int .i64 0, .int .i64 0, .int .i64 0, .int .i64 0, .int .i64 0, .int .i64 0, .int .i64 0, .int .i64 0, .int .i64 0, .int .i64 0, .int .i64 0, .int .i64 0, .int .i64 0, .int .i64 0, .int .i64 0, .slice none 0 0, .int .i64 0, .int .i64 0, .int .i64 0, .int .i64 0, .int .i64 0, .int .i64 0, .int .i64 0, .int .i64 0, .int .i64 0, .int .i64 0, .int .i64 0, .int .i64 0, .int .i64 0, .int .i64 0, .int .i64 0, .int .i64 0, .int .i64 0, .int .i64 0, .int .i64 0, .int .i64 0, .int .i64 0, .int .i64 0, .int .i64 0, .int .i64 0, .bool false, .bool false, .bool false, .int .i64 0, .int .i64 0, .slice none 0 0, .int .i64 0, .int .i64 0, .bool false, .int .i64 0, .int .i64 0, .int .i64 0, .int .i64 0, .int .i64 0, .int .i64 0, .int .i64 0, .int .i64 0, .int .i64 0, .int .i64 0, .int .i64 0, .int .i64 0, .int .i64 0, .int .i64 0, .int .i64 0, .int .i64 0, .slice none 0 0, .int .i64 0, .int .i64 0, .int .i64 0, .int .i64 0, .int .i64 0, .int .i64 0, .int .i64 0, .int .i64 0, .int .i64 0, .int .i64 0, .int .i64 0, .int .i64 0, .int .i64 0, .int .i64 0, .int .i64 0, .int .i64 0, .int .i64 0, .int .i64 0, .int .i64 0, .int .i64 0, .int .i64 0, .int .i64 0, .int .i64 0, .int .i64 0, .bool false, .bool false, .bool false, .int .i64 0, .int .i64 0, .slice none 0 0, .int .i64 0, .int .i64 0, .slice none 0 0, .slice none 0 0, .slice none 0 0]], []⟩ 8 (by kernel_rfl) (by kernel_rfl) (by kernel_rfl) (by kernel_rfl)) ?_
  intro W base args ds gs before hval hW _ _
  exact law_contract ok_laws_FnExactIsFaithful law_true rfl (fun H ds h => by
    match ds, h with
    | [d0], _ => rfl) (by kernel_rfl) (by kernel_rfl) rfl Try.underlying4 W base args ds gs before hval hW
/-- The law returns true for all arguments. -/
theorem fnExactIsFaithful_proved : Rows.FnExactIsFaithfulSaid :=
  OpenClaim.holds_of_wide 6 Try.f6 rfl rfl rfl rfl rfl rfl rfl ⟨rfl, rfl, rfl, rfl, rfl⟩ rfl rfl rfl rfl rfl (by kernel_rfl) Try.func6 (by kernel_rfl)
    (of_decide_eq_true (by kernel_rfl)) (by unfold Func.isWrapper; first | (rw [if_pos (by decide +kernel)]; kernel_rfl) | (rw [if_neg (by decide +kernel)]; exact ⟨rfl, rfl⟩))
    (fun os started H enc _ => fnExactIsFaithful_lifted os started H enc)
#print axioms fnExactIsFaithful_proved
end Go.Proofs.Ytckmkhiiobonmaa

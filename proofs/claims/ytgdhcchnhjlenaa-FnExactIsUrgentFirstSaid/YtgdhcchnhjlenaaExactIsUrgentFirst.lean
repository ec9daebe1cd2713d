/- FnExactIsUrgentFirst returns true for all arguments. No condition. -/
import Derived.Test.YtgdhcchnhjlenaaModExactIsUrgentFirst
import Derived.KernelRfl
namespace Go.Proofs.Ytgdhcchnhjlenaa
open Go.Am Go.ChangeShapes Go.WideShapes Go.ChangeAt Go.RowKit
set_option linter.unusedVariables false
theorem sz_laws_szIntS (a : List Int) (hw : wf (.slice 3 (.int .i64)) a) : SzOK (fun left => laws_szIntS a left) (small 1048576 (.slice 3 (.int .i64)) a) := by
  exact SzOK.imp (SzOK.len a hw.1 SzOK.last) (fun h => ⟨h.1, fun _ _ => trivial⟩)

theorem sz_laws_szRing (a : TRing) (hw : wf (tyRing) a) : SzOK (fun left => laws_szRing a left) (small 1048576 (tyRing) a) := by
  exact SzOK.imp (SzOK.seq (sz_laws_szIntS a.2.2.2.1 hw.2.2.2.1) SzOK.last) (fun h => ⟨trivial, ⟨trivial, ⟨trivial, ⟨h.1, trivial⟩⟩⟩⟩)

theorem sz_laws_szRangeS (a : List TRange) (hw : wf (.slice 149 (tyRange)) a) : SzOK (fun left => laws_szRangeS a left) (small 1048576 (.slice 149 (tyRange)) a) := by
  exact SzOK.imp (SzOK.len a hw.1 SzOK.last) (fun h => ⟨h.1, fun _ _ => ⟨trivial, ⟨trivial, trivial⟩⟩⟩)

theorem sz_laws_szSender (a : TSender) (hw : wf (tySender) a) : SzOK (fun left => laws_szSender a left) (small 1048576 (tySender) a) := by
  exact SzOK.imp (SzOK.seq (sz_laws_szRing a.2.1 hw.2.1) (SzOK.seq (sz_laws_szRangeS a.2.2.1 hw.2.2.1) (SzOK.seq (sz_laws_szRangeS a.2.2.2.1 hw.2.2.2.1) (SzOK.seq (sz_laws_szRangeS a.2.2.2.2.1 hw.2.2.2.2.1) SzOK.last)))) (fun h => ⟨trivial, ⟨h.1, ⟨h.2.1, ⟨h.2.2.1, ⟨h.2.2.2.1, ⟨trivial, ⟨trivial, ⟨trivial, ⟨trivial, trivial⟩⟩⟩⟩⟩⟩⟩⟩⟩)

theorem sz_laws_szChunk (a : TChunk) (hw : wf (tyChunk) a) : SzOK (fun left => laws_szChunk a left) (small 1048576 (tyChunk) a) := by
  exact SzOK.imp (SzOK.len a.2.1 hw.2.1 SzOK.last) (fun h => ⟨trivial, ⟨h.1, trivial⟩⟩)

theorem sz_laws_szChunkS (a : List TChunk) (hw : wf (.slice 156 (tyChunk)) a) : SzOK (fun left => laws_szChunkS a left) (small 1048576 (.slice 156 (tyChunk)) a) := by
  exact SzOK.len a hw.1 (SzOK.loop (d := zChunk) (g := laws_szChunk) (L := laws_szChunkS_l1) (fun _ _ _ _ => rfl) (fuel := laws_szChunkS_l1_fuel) (fun a left => by unfold laws_szChunkS_l1_fuel; omega) hw.1 (fun x hx => sz_laws_szChunk x (hw.2 x hx)))

theorem sz_laws_szBuffer (a : TBuffer) (hw : wf (tyBuffer) a) : SzOK (fun left => laws_szBuffer a left) (small 1048576 (tyBuffer) a) := by
  exact SzOK.imp (SzOK.seq (sz_laws_szChunkS a.2.1 hw.2.1) SzOK.last) (fun h => ⟨trivial, ⟨h.1, trivial⟩⟩)

theorem sz_laws_szReceiver (a : TReceiver) (hw : wf (tyReceiver) a) : SzOK (fun left => laws_szReceiver a left) (small 1048576 (tyReceiver) a) := by
  exact SzOK.imp (SzOK.seq (sz_laws_szBuffer a.2.1 hw.2.1) SzOK.last) (fun h => ⟨trivial, ⟨h.1, ⟨trivial, ⟨trivial, ⟨trivial, trivial⟩⟩⟩⟩⟩)

theorem sz_laws_szStream (a : TStream) (hw : wf (tyStream) a) : SzOK (fun left => laws_szStream a left) (small 1048576 (tyStream) a) := by
  exact SzOK.imp (SzOK.seq (sz_laws_szSender a.2.1 hw.2.1) (SzOK.seq (sz_laws_szReceiver a.2.2.2.1 hw.2.2.2.1) SzOK.last)) (fun h => ⟨trivial, ⟨h.1, ⟨⟨trivial, ⟨trivial, ⟨trivial, ⟨trivial, trivial⟩⟩⟩⟩, ⟨h.2.1, ⟨⟨trivial, ⟨trivial, ⟨trivial, ⟨trivial, ⟨trivial, ⟨trivial, trivial⟩⟩⟩⟩⟩⟩, ⟨⟨trivial, ⟨trivial, trivial⟩⟩, ⟨trivial, ⟨trivial, ⟨trivial, ⟨trivial, ⟨trivial, ⟨trivial, ⟨trivial, ⟨trivial, trivial⟩⟩⟩⟩⟩⟩⟩⟩⟩⟩⟩⟩⟩⟩)

theorem sz_laws_szStreamS (a : List TStream) (hw : wf (.slice 107 (tyStream)) a) : SzOK (fun left => laws_szStreamS a left) (small 1048576 (.slice 107 (tyStream)) a) := by
  exact SzOK.len a hw.1 (SzOK.loop (d := zStream) (g := laws_szStream) (L := laws_szStreamS_l1) (fun _ _ _ _ => rfl) (fuel := laws_szStreamS_l1_fuel) (fun a left => by unfold laws_szStreamS_l1_fuel; omega) hw.1 (fun x hx => sz_laws_szStream x (hw.2 x hx)))

theorem sz_laws_szFrame (a : TFrame) (hw : wf (tyFrame) a) : SzOK (fun left => laws_szFrame a left) (small 1048576 (tyFrame) a) := by
  exact SzOK.imp (SzOK.len a.2.2.2.1 hw.2.2.2.1 SzOK.last) (fun h => ⟨trivial, ⟨trivial, ⟨trivial, ⟨h.1, ⟨trivial, ⟨trivial, ⟨trivial, ⟨trivial, ⟨trivial, trivial⟩⟩⟩⟩⟩⟩⟩⟩⟩)

theorem sz_laws_szFrameS (a : List TFrame) (hw : wf (.slice 59 (tyFrame)) a) : SzOK (fun left => laws_szFrameS a left) (small 1048576 (.slice 59 (tyFrame)) a) := by
  exact SzOK.len a hw.1 (SzOK.loop (d := zFrame) (g := laws_szFrame) (L := laws_szFrameS_l1) (fun _ _ _ _ => rfl) (fuel := laws_szFrameS_l1_fuel) (fun a left => by unfold laws_szFrameS_l1_fuel; omega) hw.1 (fun x hx => sz_laws_szFrame x (hw.2 x hx)))

theorem sz_laws_szPacket (a : TPacket) (hw : wf (tyPacket) a) : SzOK (fun left => laws_szPacket a left) (small 1048576 (tyPacket) a) := by
  exact SzOK.imp (SzOK.seq (sz_laws_szFrameS a.2.1 hw.2.1) SzOK.last) (fun h => ⟨trivial, ⟨h.1, trivial⟩⟩)

theorem sz_laws_szPacketS (a : List TPacket) (hw : wf (.slice 110 (tyPacket)) a) : SzOK (fun left => laws_szPacketS a left) (small 1048576 (.slice 110 (tyPacket)) a) := by
  exact SzOK.len a hw.1 (SzOK.loop (d := zPacket) (g := laws_szPacket) (L := laws_szPacketS_l1) (fun _ _ _ _ => rfl) (fuel := laws_szPacketS_l1_fuel) (fun a left => by unfold laws_szPacketS_l1_fuel; omega) hw.1 (fun x hx => sz_laws_szPacket x (hw.2 x hx)))

theorem sz_laws_szConn (a : TConn) (hw : wf (tyConn) a) : SzOK (fun left => laws_szConn a left) (small 1048576 (tyConn) a) := by
  exact SzOK.imp (SzOK.seq (sz_laws_szStreamS a.2.2.2.1 hw.2.2.2.1) (SzOK.seq (sz_laws_szPacketS a.2.2.2.2.2.2.2.2.2.2.2.2.2.2.2.1 hw.2.2.2.2.2.2.2.2.2.2.2.2.2.2.2.1) SzOK.last)) (fun h => ⟨trivial, ⟨⟨trivial, ⟨trivial, ⟨trivial, ⟨trivial, ⟨trivial, ⟨trivial, ⟨trivial, ⟨trivial, trivial⟩⟩⟩⟩⟩⟩⟩⟩, ⟨⟨trivial, ⟨trivial, ⟨trivial, ⟨trivial, ⟨trivial, ⟨trivial, ⟨trivial, ⟨trivial, trivial⟩⟩⟩⟩⟩⟩⟩⟩, ⟨h.1, ⟨⟨trivial, ⟨trivial, ⟨trivial, ⟨trivial, trivial⟩⟩⟩⟩, ⟨⟨trivial, ⟨trivial, ⟨trivial, ⟨trivial, ⟨trivial, ⟨trivial, trivial⟩⟩⟩⟩⟩⟩, ⟨⟨trivial, ⟨trivial, ⟨trivial, trivial⟩⟩⟩, ⟨⟨trivial, ⟨trivial, ⟨trivial, trivial⟩⟩⟩, ⟨⟨trivial, ⟨trivial, ⟨trivial, ⟨trivial, trivial⟩⟩⟩⟩, ⟨⟨trivial, ⟨trivial, ⟨trivial, ⟨trivial, trivial⟩⟩⟩⟩, ⟨trivial, ⟨trivial, ⟨trivial, ⟨trivial, ⟨trivial, ⟨h.2.1, ⟨trivial, ⟨trivial, trivial⟩⟩⟩⟩⟩⟩⟩⟩⟩⟩⟩⟩⟩⟩⟩⟩⟩⟩)

theorem to_laws_toConf (a : TConf) (h : small 1048576 (tyConf) a) : laws_toConf a = some (a, ()) := by
  rfl

theorem to_laws_toIntS (a : List Int) (h : small 1048576 (.slice 3 (.int .i64)) a) : laws_toIntS a = some (a, ()) := by
  unfold laws_toIntS
  have hl := h.1
  simp only []
  rw [guardP_pos (by unfold capN; omega)]
  exact copy_loop (d := (0 : Int)) (L := laws_toIntS_l1) (fun _ _ _ _ => rfl) _ a _ 0 (by omega) (by simp) (by omega) (by simp) (by unfold laws_toIntS_l1_fuel; omega)

theorem to_laws_toRing (a : TRing) (h : small 1048576 (tyRing) a) : laws_toRing a = some (a, ()) := by
  unfold laws_toRing
  simp only [to_laws_toIntS a.2.2.2.1 h.2.2.2.1, Option.bind_some]

theorem to_laws_toRange (a : TRange) (h : small 1048576 (tyRange) a) : laws_toRange a = some (a, ()) := by
  rfl

theorem to_laws_toRangeS (a : List TRange) (h : small 1048576 (.slice 149 (tyRange)) a) : laws_toRangeS a = some (a, ()) := by
  unfold laws_toRangeS
  have hl := h.1
  simp only []
  rw [guardP_pos (by unfold capN; omega)]
  exact copy_loop_by (d := zRange) (g := laws_toRange) (ok := small 1048576 (tyRange)) to_laws_toRange (L := laws_toRangeS_l1) (fun _ _ _ _ => rfl) _ a _ 0 h.2 (by omega) (by simp) (by omega) (by simp) (by unfold laws_toRangeS_l1_fuel; omega)

theorem to_laws_toSender (a : TSender) (h : small 1048576 (tySender) a) : laws_toSender a = some (a, ()) := by
  unfold laws_toSender
  simp only [to_laws_toRing a.2.1 h.2.1, to_laws_toRangeS a.2.2.1 h.2.2.1, to_laws_toRangeS a.2.2.2.1 h.2.2.2.1, to_laws_toRangeS a.2.2.2.2.1 h.2.2.2.2.1, Option.bind_some]

theorem to_laws_toCredit (a : TAllow) (h : small 1048576 (tyAllow) a) : laws_toCredit a = some (a, ()) := by
  rfl

theorem to_laws_toChunk (a : TChunk) (h : small 1048576 (tyChunk) a) : laws_toChunk a = some (a, ()) := by
  rfl

theorem to_laws_toChunkS (a : List TChunk) (h : small 1048576 (.slice 156 (tyChunk)) a) : laws_toChunkS a = some (a, ()) := by
  unfold laws_toChunkS
  have hl := h.1
  simp only []
  rw [guardP_pos (by unfold capN; omega)]
  exact copy_loop_by (d := zChunk) (g := laws_toChunk) (ok := small 1048576 (tyChunk)) to_laws_toChunk (L := laws_toChunkS_l1) (fun _ _ _ _ => rfl) _ a _ 0 h.2 (by omega) (by simp) (by omega) (by simp) (by unfold laws_toChunkS_l1_fuel; omega)

theorem to_laws_toBuffer (a : TBuffer) (h : small 1048576 (tyBuffer) a) : laws_toBuffer a = some (a, ()) := by
  unfold laws_toBuffer
  simp only [to_laws_toChunkS a.2.1 h.2.1, Option.bind_some]

theorem to_laws_toReceiver (a : TReceiver) (h : small 1048576 (tyReceiver) a) : laws_toReceiver a = some (a, ()) := by
  unfold laws_toReceiver
  simp only [to_laws_toBuffer a.2.1 h.2.1, Option.bind_some]

theorem to_laws_toWindow (a : TWindow) (h : small 1048576 (tyWindow) a) : laws_toWindow a = some (a, ()) := by
  rfl

theorem to_laws_toPriority (a : TPriority) (h : small 1048576 (tyPriority) a) : laws_toPriority a = some (a, ()) := by
  rfl

theorem to_laws_toStream (a : TStream) (h : small 1048576 (tyStream) a) : laws_toStream a = some (a, ()) := by
  unfold laws_toStream
  simp only [to_laws_toSender a.2.1 h.2.1, to_laws_toCredit a.2.2.1 h.2.2.1, to_laws_toReceiver a.2.2.2.1 h.2.2.2.1, to_laws_toWindow a.2.2.2.2.1 h.2.2.2.2.1, to_laws_toPriority a.2.2.2.2.2.1 h.2.2.2.2.2.1, Option.bind_some]

theorem to_laws_toStreamS (a : List TStream) (h : small 1048576 (.slice 107 (tyStream)) a) : laws_toStreamS a = some (a, ()) := by
  unfold laws_toStreamS
  have hl := h.1
  simp only []
  rw [guardP_pos (by unfold capN; omega)]
  exact copy_loop_by (d := zStream) (g := laws_toStream) (ok := small 1048576 (tyStream)) to_laws_toStream (L := laws_toStreamS_l1) (fun _ _ _ _ => rfl) _ a _ 0 h.2 (by omega) (by simp) (by omega) (by simp) (by unfold laws_toStreamS_l1_fuel; omega)

theorem to_laws_toCount (a : TCount) (h : small 1048576 (tyCount) a) : laws_toCount a = some (a, ()) := by
  rfl

theorem to_laws_toAllow (a : TAllow) (h : small 1048576 (tyAllow) a) : laws_toAllow a = some (a, ()) := by
  rfl

theorem to_laws_toFrame (a : TFrame) (h : small 1048576 (tyFrame) a) : laws_toFrame a = some (a, ()) := by
  rfl

theorem to_laws_toFrameS (a : List TFrame) (h : small 1048576 (.slice 59 (tyFrame)) a) : laws_toFrameS a = some (a, ()) := by
  unfold laws_toFrameS
  have hl := h.1
  simp only []
  rw [guardP_pos (by unfold capN; omega)]
  exact copy_loop_by (d := zFrame) (g := laws_toFrame) (ok := small 1048576 (tyFrame)) to_laws_toFrame (L := laws_toFrameS_l1) (fun _ _ _ _ => rfl) _ a _ 0 h.2 (by omega) (by simp) (by omega) (by simp) (by unfold laws_toFrameS_l1_fuel; omega)

theorem to_laws_toPacket (a : TPacket) (h : small 1048576 (tyPacket) a) : laws_toPacket a = some (a, ()) := by
  unfold laws_toPacket
  simp only [to_laws_toFrameS a.2.1 h.2.1, Option.bind_some]

theorem to_laws_toPacketS (a : List TPacket) (h : small 1048576 (.slice 110 (tyPacket)) a) : laws_toPacketS a = some (a, ()) := by
  unfold laws_toPacketS
  have hl := h.1
  simp only []
  rw [guardP_pos (by unfold capN; omega)]
  exact copy_loop_by (d := zPacket) (g := laws_toPacket) (ok := small 1048576 (tyPacket)) to_laws_toPacket (L := laws_toPacketS_l1) (fun _ _ _ _ => rfl) _ a _ 0 h.2 (by omega) (by simp) (by omega) (by simp) (by unfold laws_toPacketS_l1_fuel; omega)

theorem to_laws_toConn (a : TConn) (h : small 1048576 (tyConn) a) : laws_toConn a = some (a, ()) := by
  unfold laws_toConn
  simp only [to_laws_toConf a.2.1 h.2.1, to_laws_toConf a.2.2.1 h.2.2.1, to_laws_toStreamS a.2.2.2.1 h.2.2.2.1, to_laws_toCredit a.2.2.2.2.1 h.2.2.2.2.1, to_laws_toWindow a.2.2.2.2.2.1 h.2.2.2.2.2.1, to_laws_toCount a.2.2.2.2.2.2.1 h.2.2.2.2.2.2.1, to_laws_toCount a.2.2.2.2.2.2.2.1 h.2.2.2.2.2.2.2.1, to_laws_toAllow a.2.2.2.2.2.2.2.2.1 h.2.2.2.2.2.2.2.2.1, to_laws_toAllow a.2.2.2.2.2.2.2.2.2.1 h.2.2.2.2.2.2.2.2.2.1, to_laws_toPacketS a.2.2.2.2.2.2.2.2.2.2.2.2.2.2.2.1 h.2.2.2.2.2.2.2.2.2.2.2.2.2.2.2.1, Option.bind_some]

theorem eq_laws_eqConf (a : TConf) (h : small 1048576 (tyConf) a) : laws_eqConf a a = some (true, ()) := by
  unfold laws_eqConf
  simp only [bne_self_eq_false, cond_false]

theorem eq_laws_eqIntS (a : List Int) (h : small 1048576 (.slice 3 (.int .i64)) a) : laws_eqIntS a a = some (true, ()) := by
  unfold laws_eqIntS
  have hl := h.1
  rw [bif_false (by simp)]
  exact eq_loop (d := (0 : Int)) (ne := fun x y => x != y) (by simp) (L := laws_eqIntS_l1) (fun _ _ _ _ => rfl) _ a 0 (by omega) (by omega) (by unfold laws_eqIntS_l1_fuel; omega)

theorem eq_laws_eqRing (a : TRing) (h : small 1048576 (tyRing) a) : laws_eqRing a a = some (true, ()) := by
  unfold laws_eqRing
  simp only [eq_laws_eqIntS a.2.2.2.1 h.2.2.2.1, bne_self_eq_false, Bool.not_true, cond_false, Option.bind_some]

theorem eq_laws_eqRange (a : TRange) (h : small 1048576 (tyRange) a) : laws_eqRange a a = some (true, ()) := by
  unfold laws_eqRange
  simp only [bne_self_eq_false, cond_false]

theorem eq_laws_eqRangeS (a : List TRange) (h : small 1048576 (.slice 147 (tyRange)) a) : laws_eqRangeS a a = some (true, ()) := by
  unfold laws_eqRangeS
  have hl := h.1
  rw [bif_false (by simp)]
  exact eq_loop_in (d := zRange) (g := laws_eqRange) (L := laws_eqRangeS_l1) (fun _ _ _ _ => rfl) _ a 0 (fun x hx => eq_laws_eqRange x (h.2 x hx)) (by omega) (by omega) (by unfold laws_eqRangeS_l1_fuel; omega)

theorem eq_laws_eqSender (a : TSenderx) (h : small 1048576 (tySenderx) a) : laws_eqSender a a = some (true, ()) := by
  unfold laws_eqSender
  simp only [eq_laws_eqRing a.2.1 h.2.1, eq_laws_eqRangeS a.2.2.1 h.2.2.1, eq_laws_eqRangeS a.2.2.2.1 h.2.2.2.1, eq_laws_eqRangeS a.2.2.2.2.1 h.2.2.2.2.1, bne_self_eq_false, Bool.not_true, cond_false, Option.bind_some]

theorem eq_laws_eqCredit (a : TAllow) (h : small 1048576 (tyAllow) a) : laws_eqCredit a a = some (true, ()) := by
  unfold laws_eqCredit
  simp only [bne_self_eq_false, cond_false]

theorem eq_laws_eqChunk (a : TChunk) (h : small 1048576 (tyChunk) a) : laws_eqChunk a a = some (true, ()) := by
  unfold laws_eqChunk
  simp only [bne_self_eq_false, beq_self_eq_true, Bool.not_true, cond_false]

theorem eq_laws_eqChunkS (a : List TChunk) (h : small 1048576 (.slice 157 (tyChunk)) a) : laws_eqChunkS a a = some (true, ()) := by
  unfold laws_eqChunkS
  have hl := h.1
  rw [bif_false (by simp)]
  exact eq_loop_in (d := zChunk) (g := laws_eqChunk) (L := laws_eqChunkS_l1) (fun _ _ _ _ => rfl) _ a 0 (fun x hx => eq_laws_eqChunk x (h.2 x hx)) (by omega) (by omega) (by unfold laws_eqChunkS_l1_fuel; omega)

theorem eq_laws_eqBuffer (a : TBufferx) (h : small 1048576 (tyBufferx) a) : laws_eqBuffer a a = some (true, ()) := by
  unfold laws_eqBuffer
  simp only [eq_laws_eqChunkS a.2.1 h.2.1, bne_self_eq_false, Bool.not_true, cond_false, Option.bind_some]

theorem eq_laws_eqReceiver (a : TReceiverx) (h : small 1048576 (tyReceiverx) a) : laws_eqReceiver a a = some (true, ()) := by
  unfold laws_eqReceiver
  simp only [eq_laws_eqBuffer a.2.1 h.2.1, bne_self_eq_false, Bool.not_true, cond_false, Option.bind_some]

theorem eq_laws_eqWindow (a : TWindow) (h : small 1048576 (tyWindow) a) : laws_eqWindow a a = some (true, ()) := by
  unfold laws_eqWindow
  simp only [bne_self_eq_false, cond_false]

theorem eq_laws_eqPriority (a : TPriority) (h : small 1048576 (tyPriority) a) : laws_eqPriority a a = some (true, ()) := by
  unfold laws_eqPriority
  simp only [bne_self_eq_false, beq_self_eq_true, Bool.not_true, cond_false]

theorem eq_laws_eqStream (a : TStreamx) (h : small 1048576 (tyStreamx) a) : laws_eqStream a a = some (true, ()) := by
  unfold laws_eqStream
  simp only [eq_laws_eqSender a.2.1 h.2.1, eq_laws_eqCredit a.2.2.1 h.2.2.1, eq_laws_eqReceiver a.2.2.2.1 h.2.2.2.1, eq_laws_eqWindow a.2.2.2.2.1 h.2.2.2.2.1, eq_laws_eqPriority a.2.2.2.2.2.1 h.2.2.2.2.2.1, bne_self_eq_false, beq_self_eq_true, Bool.not_true, cond_false, Option.bind_some]

theorem eq_laws_eqStreamS (a : List TStreamx) (h : small 1048576 (.slice 75 (tyStreamx)) a) : laws_eqStreamS a a = some (true, ()) := by
  unfold laws_eqStreamS
  have hl := h.1
  rw [bif_false (by simp)]
  exact eq_loop_in (d := zStreamx) (g := laws_eqStream) (L := laws_eqStreamS_l1) (fun _ _ _ _ => rfl) _ a 0 (fun x hx => eq_laws_eqStream x (h.2 x hx)) (by omega) (by omega) (by unfold laws_eqStreamS_l1_fuel; omega)

theorem eq_laws_eqCount (a : TCount) (h : small 1048576 (tyCount) a) : laws_eqCount a a = some (true, ()) := by
  unfold laws_eqCount
  simp only [bne_self_eq_false, cond_false]

theorem eq_laws_eqAllow (a : TAllow) (h : small 1048576 (tyAllow) a) : laws_eqAllow a a = some (true, ()) := by
  unfold laws_eqAllow
  simp only [bne_self_eq_false, cond_false]

theorem eq_laws_eqFrame (a : TFrame) (h : small 1048576 (tyFrame) a) : laws_eqFrame a a = some (true, ()) := by
  unfold laws_eqFrame
  simp only [bne_self_eq_false, beq_self_eq_true, Bool.not_true, cond_false]

theorem eq_laws_eqFrameS (a : List TFrame) (h : small 1048576 (.slice 60 (tyFrame)) a) : laws_eqFrameS a a = some (true, ()) := by
  unfold laws_eqFrameS
  have hl := h.1
  rw [bif_false (by simp)]
  exact eq_loop_in (d := zFrame) (g := laws_eqFrame) (L := laws_eqFrameS_l1) (fun _ _ _ _ => rfl) _ a 0 (fun x hx => eq_laws_eqFrame x (h.2 x hx)) (by omega) (by omega) (by unfold laws_eqFrameS_l1_fuel; omega)

theorem eq_laws_eqPacket (a : TPacketx) (h : small 1048576 (tyPacketx) a) : laws_eqPacket a a = some (true, ()) := by
  unfold laws_eqPacket
  simp only [eq_laws_eqFrameS a.2.1 h.2.1, bne_self_eq_false, Bool.not_true, cond_false, Option.bind_some]

theorem eq_laws_eqPacketS (a : List TPacketx) (h : small 1048576 (.slice 115 (tyPacketx)) a) : laws_eqPacketS a a = some (true, ()) := by
  unfold laws_eqPacketS
  have hl := h.1
  rw [bif_false (by simp)]
  exact eq_loop_in (d := zPacketx) (g := laws_eqPacket) (L := laws_eqPacketS_l1) (fun _ _ _ _ => rfl) _ a 0 (fun x hx => eq_laws_eqPacket x (h.2 x hx)) (by omega) (by omega) (by unfold laws_eqPacketS_l1_fuel; omega)

theorem eq_laws_eqConn (a : TConnx) (h : small 1048576 (tyConnx) a) : laws_eqConn a a = some (true, ()) := by
  unfold laws_eqConn
  simp only [eq_laws_eqConf a.2.1 h.2.1, eq_laws_eqConf a.2.2.1 h.2.2.1, eq_laws_eqStreamS a.2.2.2.1 h.2.2.2.1, eq_laws_eqCredit a.2.2.2.2.1 h.2.2.2.2.1, eq_laws_eqWindow a.2.2.2.2.2.1 h.2.2.2.2.2.1, eq_laws_eqCount a.2.2.2.2.2.2.1 h.2.2.2.2.2.2.1, eq_laws_eqCount a.2.2.2.2.2.2.2.1 h.2.2.2.2.2.2.2.1, eq_laws_eqAllow a.2.2.2.2.2.2.2.2.1 h.2.2.2.2.2.2.2.2.1, eq_laws_eqAllow a.2.2.2.2.2.2.2.2.2.1 h.2.2.2.2.2.2.2.2.2.1, eq_laws_eqPacketS a.2.2.2.2.2.2.2.2.2.2.2.2.2.2.2.1 h.2.2.2.2.2.2.2.2.2.2.2.2.2.2.2.1, bne_self_eq_false, beq_self_eq_true, Bool.not_true, cond_false, Option.bind_some]

theorem app_one {α : Type} (pre : List α) (x : α) (rest : List α) : pre ++ x :: rest = pre ++ [x] ++ rest := by simp
theorem getD_app {α : Type} (pre : List α) (x : α) (rest : List α) (d : α) : (pre ++ x :: rest).getD ((pre.length : Int).toNat) d = x := by
  rw [show (pre.length : Int).toNat = pre.length from rfl, List.getD_eq_getElem?_getD, List.getElem?_append_right (Nat.le_refl _)]
  simp
theorem getD_mem {α : Type} {l : List α} {i : Nat} {d : α} (h : i < l.length) : l.getD i d ∈ l := by
  rw [List.getD_eq_getElem?_getD, List.getElem?_eq_getElem h]; exact List.getElem_mem h
theorem find_loop (id : Int) (l : List TStreamx) (hl : l.length ≤ 1048576) : ∀ (N i : Nat), i ≤ l.length → l.length - i < N →
    ∃ r, spec_FindStream_l1 N l id (i : Int) = some (r, ()) ∧ slices_IndexFunc_impl_Stream_impl_Stream_impl_FindStream_1_l1 N l (id, ()) (l.length : Int) (i : Int) = some (r, ()) ∧ (r < 0 ∨ (0 ≤ r ∧ r < l.length))
  | 0, _, _, h => by omega
  | N + 1, i, hi, hN => by
    unfold spec_FindStream_l1 slices_IndexFunc_impl_Stream_impl_Stream_impl_FindStream_1_l1
    by_cases h : i < l.length
    · rw [bif_true (dec_true (show (i : Int) < (l.length : Int) by omega)), bif_true (dec_true (show (i : Int) < (l.length : Int) by omega))]
      rw [guardP_pos (by omega), guardP_pos (by omega), i64_succ h (by omega)]
      simp only [impl_FindStream_1, Option.bind_some]
      by_cases hc : (l.getD (i : Int).toNat zStreamx).1 == id
      · rw [bif_true hc, bif_true hc]
        exact ⟨_, rfl, rfl, .inr ⟨by omega, by omega⟩⟩
      · rw [bif_false (by simpa using hc), bif_false (by simpa using hc)]
        exact find_loop id l hl N (i + 1) h (by omega)
    · rw [bif_false (dec_false (show ¬ (i : Int) < (l.length : Int) by omega)), bif_false (dec_false (show ¬ (i : Int) < (l.length : Int) by omega))]
      exact ⟨_, rfl, rfl, .inl (by omega)⟩
theorem find (id : Int) (l : List TStreamx) (hl : l.length ≤ 1048576) : ∃ r, spec_FindStream l id = some (r, ()) ∧ impl_FindStream l id = some (r, ()) ∧ (r < 0 ∨ (0 ≤ r ∧ r < l.length)) := by
  obtain ⟨r, h1, h2, h3⟩ := find_loop id l hl (((l.length : Int) - 0).toNat + 1) 0 (by omega) (by omega)
  refine ⟨r, h1, ?_, h3⟩
  unfold impl_FindStream
  have h2 : slices_IndexFunc_impl_Stream_impl_Stream_impl_FindStream_1 l (id, ()) = some (r, ()) := h2
  rw [h2]
  rfl
theorem copies (s : TStreamx) (h : small 1048576 tyStreamx s) : spec_l15Copy s = some (s, ()) ∧ impl_copyStream s = some (s, ()) := by
  obtain ⟨a, ⟨b, ⟨r0, r1, r2, r3, _⟩, p, f, c, q⟩, cr, ⟨st, ⟨nx, ch, _⟩, rq⟩, rest⟩ := s
  obtain ⟨_, ⟨_, ⟨_, _, _, h1, _⟩, h2, h3, h4, _⟩, _, ⟨_, ⟨_, h5, _⟩, _⟩, _⟩ := h
  have g1 : r3.length ≤ 1048576 := h1.1
  have g2 : p.length ≤ 1048576 := h2.1
  have g3 : f.length ≤ 1048576 := h3.1
  have g4 : c.length ≤ 1048576 := h4.1
  have g5 : ch.length ≤ 1048576 := h5.1
  have k1 : ([] : List Int).length + r3.length ≤ capN := by unfold capN; simp; omega
  have k2 : ([] : List TRange).length + p.length ≤ capN := by unfold capN; simp; omega
  have k3 : ([] : List TRange).length + f.length ≤ capN := by unfold capN; simp; omega
  have k4 : ([] : List TRange).length + c.length ≤ capN := by unfold capN; simp; omega
  have k5 : ([] : List TChunk).length + ch.length ≤ capN := by unfold capN; simp; omega
  constructor
  · simp only [spec_l15Copy, spec_l9Copy, spec_l8Copy, spec_l3Copy, spec_l7Copy, spec_l6Copy, guardP_pos k1, guardP_pos k2, guardP_pos k3, guardP_pos k4, guardP_pos k5, Option.bind_some, List.nil_append]
  · simp only [impl_copyStream, impl_copySender, impl_copyRing, impl_copyRanges, impl_copyReceiver, impl_copyBuffer, guardP_pos k1, guardP_pos k2, guardP_pos k3, guardP_pos k4, guardP_pos k5, Option.bind_some, List.nil_append]
def urg (s : TStreamx) : Int := s.2.2.2.2.2.1.1
theorem streamOf (c : TConnx) (h : small 1048576 tyConnx c) (hw : wf tyConnx c) (id : Int) : ∃ v : TStreamx × Bool, spec_StreamOf c id = some (v.1, v.2, ()) ∧ impl_StreamOf c id = some (v.1, v.2, ()) ∧ -9223372036854775808 ≤ urg v.1 := by
  have hs : c.2.2.2.1.length ≤ 1048576 ∧ ∀ y ∈ c.2.2.2.1, small 1048576 tyStreamx y := h.2.2.2.1
  have hv : c.2.2.2.1.length ≤ maxLen ∧ ∀ y ∈ c.2.2.2.1, wf tyStreamx y := hw.2.2.2.1
  obtain ⟨r, h1, h2, h3⟩ := find id c.2.2.2.1 hs.1
  unfold spec_StreamOf impl_StreamOf
  rw [h1, h2]
  simp only [Option.bind_some]
  by_cases hr : r < 0
  · rw [bif_true (dec_true hr), bif_true (dec_true hr)]
    exact ⟨(_, _), rfl, rfl, by decide⟩
  · rw [bif_false (dec_false hr), bif_false (dec_false hr)]
    have hr2 : 0 ≤ r ∧ r < c.2.2.2.1.length := h3.resolve_left hr
    have hm := getD_mem (l := c.2.2.2.1) (i := r.toNat) (d := zStreamx) (by omega)
    obtain ⟨e1, e2⟩ := copies _ (hs.2 _ hm)
    rw [guardP_pos hr2, guardP_pos hr2, e1, e2]
    refine ⟨(_, _), rfl, rfl, ?_⟩
    have : (Lit.int .i64 (urg (c.2.2.2.1.getD r.toNat zStreamx))).wf = true := (hv.2 _ hm).2.2.2.2.2.1.1
    simp only [Lit.wf, Bool.and_eq_true, decide_eq_true_eq] at this
    have hmin : IntKind.i64.min = -9223372036854775808 := by decide
    have := this.1
    rw [hmin] at this
    exact this
/-! the order of the streams -/
def ids : List TFrame → List Int
  | [] => []
  | f :: r => if f.1 = 8 then f.2.1 :: ids r else ids r
theorem ids_len : ∀ l : List TFrame, (ids l).length ≤ l.length
  | [] => by simp [ids]
  | f :: r => by have := ids_len r; unfold ids; split <;> simp <;> omega
theorem order_impl : ∀ (N : Nat) (pre rest : List TFrame) (out : List Int), (pre ++ rest).length ≤ 1048576 → out.length + rest.length ≤ 1048576 → rest.length < N →
    impl_OrderOf_l1 N out (pre ++ rest) ((pre ++ rest).length : Int) (pre.length : Int) = some (out ++ ids rest, ())
  | 0, _, _, _, _, _, h => by omega
  | N + 1, pre, [], out, _, _, _ => by
    unfold impl_OrderOf_l1
    rw [bif_false (dec_false (by simp))]
    simp [ids]
  | N + 1, pre, f :: rest, out, h1, h2, h3 => by
    unfold impl_OrderOf_l1
    simp only [List.length_append, List.length_cons] at h1 h2 h3
    rw [bif_true (dec_true (by simp; omega)), guardP_pos (by simp; omega)]
    simp only [getD_app]
    have e := app_one pre f rest
    by_cases h : f.1 = 8
    · rw [bif_true (by simp [h]), guardP_pos (by unfold capN; simp; omega), i64_succ (m := (pre ++ f :: rest).length) (by simp) (by simp; omega)]
      have := order_impl N (pre ++ [f]) rest (out ++ [f.2.1]) (by simp; omega) (by simp; omega) (by omega)
      rw [← e] at this
      simp only [List.length_append, List.length_cons, List.length_nil, Nat.zero_add] at this ⊢
      rw [this]
      simp [ids, h]
    · rw [bif_false (by simpa using h), i64_succ (m := (pre ++ f :: rest).length) (by simp) (by simp; omega)]
      have := order_impl N (pre ++ [f]) rest out (by simp; omega) (by omega) (by omega)
      rw [← e] at this
      simp only [List.length_append, List.length_cons, List.length_nil, Nat.zero_add] at this ⊢
      rw [this]
      simp [ids, h]
theorem order (l : List TFrame) (h : l.length ≤ 1048576) : impl_OrderOf l = some (ids l, ()) := by
  have := order_impl (((l.length : Int) - 0).toNat + 1) [] l [] (by simpa using h) (by simpa using h) (by omega)
  simpa [impl_OrderOf, impl_OrderOf_l1_fuel] using this
/-- what both look at -/
def U (st : Int → TStreamx × Bool) : List Int → Int → Bool
  | [], _ => true
  | id :: r, last => bif (!(st id).2) || decide (urg (st id).1 < last) then false else U st r (urg (st id).1)
theorem U_cons (st : Int → TStreamx × Bool) (id : Int) (r : List Int) (last : Int) : U st (id :: r) last = bif (!(st id).2) || decide (urg (st id).1 < last) then false else U st r (urg (st id).1) := rfl
theorem same_bothK {α : Type} {x : Option α} : bothK x x = x := by simp [bothK]
theorem spec_U (c : TConnx) (st : Int → TStreamx × Bool) (hst : ∀ id, spec_StreamOf c id = some ((st id).1, (st id).2, ())) : ∀ (N : Nat) (pre rest : List TFrame) (last : Int), (pre ++ rest).length ≤ 1048576 → rest.length < N →
    spec_IsUrgentFirst_l1 N (pre ++ rest) c last (pre.length : Int) = some (U st (ids rest) last, ())
  | 0, _, _, _, _, h => by omega
  | N + 1, pre, [], last, _, _ => by
    unfold spec_IsUrgentFirst_l1
    rw [bif_false (dec_false (by simp))]
    simp [ids, U]
  | N + 1, pre, f :: rest, last, h1, h3 => by
    unfold spec_IsUrgentFirst_l1
    simp only [List.length_append, List.length_cons] at h1 h3
    rw [bif_true (dec_true (by simp; omega)), guardP_pos (by simp; omega)]
    simp only [getD_app]
    have e := app_one pre f rest
    have next : ∀ last2, spec_IsUrgentFirst_j1 (fun v => spec_IsUrgentFirst_l1 N v.1 v.2.1 v.2.2.1 v.2.2.2.1) (pre ++ f :: rest) c last2 (pre.length : Int) = some (U st (ids rest) last2, ()) := fun last2 => by
      unfold spec_IsUrgentFirst_j1
      rw [i64_succ (m := (pre ++ f :: rest).length) (by simp) (by simp; omega)]
      have := spec_U c st hst N (pre ++ [f]) rest last2 (by simp; omega) (by omega)
      rw [← e] at this
      simp only [List.length_append, List.length_cons, List.length_nil, Nat.zero_add] at this
      exact this
    by_cases h : f.1 = 8
    · rw [bif_false (by simp [h]), guardP_pos (by simp; omega)]
      simp only [hst, Option.bind_some, same_bothK, spec_IsUrgentFirst_j2, next]
      have : ids (f :: rest) = f.2.1 :: ids rest := by simp [ids, h]
      rw [this, U_cons]
      show (bif (!(st f.2.1).2) || decide (urg (st f.2.1).1 < last) then some (false, ()) else some (U st (ids rest) (urg (st f.2.1).1), ())) = _
      cases ((!(st f.2.1).2) || decide (urg (st f.2.1).1 < last)) <;> rfl
    · rw [bif_true (by simpa using h), next]
      simp [ids, h]
theorem impl_U (c : TConnx) (st : Int → TStreamx × Bool) (hst : ∀ id, impl_StreamOf c id = some ((st id).1, (st id).2, ()) ∧ -9223372036854775808 ≤ urg (st id).1) : ∀ (N : Nat) (pre rest : List Int) (first : Bool) (before last : Int), (pre ++ rest).length ≤ 1048576 → rest.length < N → (first = true → last = -9223372036854775808) → (first = false → last = before) →
    impl_IsUrgentFirst_l1 N c first before (pre ++ rest) ((pre ++ rest).length : Int) (pre.length : Int) = some (U st rest last, ())
  | 0, _, _, _, _, _, _, h, _, _ => by omega
  | N + 1, pre, [], _, _, last, _, _, _, _ => by
    unfold impl_IsUrgentFirst_l1
    rw [bif_false (dec_false (by simp))]
    simp [U]
  | N + 1, pre, f :: rest, first, before, last, h1, h3, hf, hb => by
    unfold impl_IsUrgentFirst_l1
    simp only [List.length_append, List.length_cons] at h1 h3
    rw [bif_true (dec_true (by simp; omega)), guardP_pos (by simp; omega)]
    simp only [getD_app, (hst f).1, Option.bind_some]
    have e := app_one pre f rest
    rw [i64_succ (m := (pre ++ f :: rest).length) (by simp) (by simp; omega)]
    have := impl_U c st hst N (pre ++ [f]) rest false (urg (st f).1) (urg (st f).1) (by simp; omega) (by omega) (by simp) (fun _ => rfl)
    rw [← e] at this
    simp only [List.length_append, List.length_cons, List.length_nil, Nat.zero_add] at this ⊢
    have e2 : (!first && decide ((st f).1.2.2.2.2.2.1.1 < before)) = decide (urg (st f).1 < last) := by
      cases first
      · rw [hb rfl]; rfl
      · rw [hf rfl]
        have := (hst f).2
        simp; omega
    rw [e2, U_cons]
    show (bif (!(st f).2) || decide (urg (st f).1 < last) then some (false, ()) else impl_IsUrgentFirst_l1 N c false (urg (st f).1) (pre ++ f :: rest) _ _) = _
    rw [this]
    cases ((!(st f).2) || decide (urg (st f).1 < last)) <;> rfl
theorem core (c : TConnx) (l : List TFrame) (h : small 1048576 tyConnx c) (hw : wf tyConnx c) (hl : l.length ≤ 1048576) : ∃ r, spec_IsUrgentFirst c l = some (r, ()) ∧ impl_IsUrgentFirst c l = some (r, ()) := by
  have hc := streamOf c h hw
  have hst : ∀ id, spec_StreamOf c id = some ((Classical.choose (hc id)).1, (Classical.choose (hc id)).2, ()) := fun id => (Classical.choose_spec (hc id)).1
  have hst2 : ∀ id, impl_StreamOf c id = some ((Classical.choose (hc id)).1, (Classical.choose (hc id)).2, ()) ∧ _ := fun id => (Classical.choose_spec (hc id)).2
  have h1 := spec_U c (fun id => Classical.choose (hc id)) hst (((l.length : Int) - 0).toNat + 1) [] l (-9223372036854775808) (by simpa using hl) (by omega)
  have hm : (ids l).length ≤ 1048576 := Nat.le_trans (ids_len l) hl
  have h2 := impl_U c (fun id => Classical.choose (hc id)) hst2 ((((ids l).length : Int) - 0).toNat + 1) [] (ids l) true 0 (-9223372036854775808) (by simpa using hm) (by omega) (fun _ => rfl) (by simp)
  refine ⟨_, h1, ?_⟩
  unfold impl_IsUrgentFirst
  rw [order l hl]
  exact h2
theorem law_true : ∀ xs : dens e_laws_FnExactIsUrgentFirst.args, wfA e_laws_FnExactIsUrgentFirst.args xs → laws_FnExactIsUrgentFirst xs.1 xs.2.1 = some (true, ()) := by
  intro ⟨c, l, _⟩ ⟨hw1, hw2, _⟩
  unfold laws_FnExactIsUrgentFirst
  obtain ⟨r, h1, hle, h3⟩ := sz_laws_szConn c hw1 1048576 (by omega) (by omega)
  have h1 : laws_szConn c 1048576 = some (r, ()) := h1
  rw [h1]
  simp only [Option.bind_some]
  by_cases h : r < 0
  · rw [bif_true (dec_true h)]
  · rw [bif_false (dec_false h)]
    have hs := h3 (by omega)
    obtain ⟨r2, k1, _, k3⟩ := sz_laws_szFrameS l hw2 r (by omega) (by omega)
    have k1 : laws_szFrameS l r = some (r2, ()) := k1
    rw [k1]
    simp only [Option.bind_some]
    by_cases h2 : r2 < 0
    · rw [bif_true (dec_true h2)]
    · rw [bif_false (dec_false h2)]
      have hs2 := k3 (by omega)
      obtain ⟨m, e1, e2⟩ := core c l hs hw1 hs2.1
      have eq := eq_laws_eqConn c hs
      have eq2 := eq_laws_eqFrameS l hs2
      simp only [to_laws_toConn _ hs, to_laws_toFrameS _ hs2, Option.bind_some, e1, e2, eq, eq2]
      simp

theorem fnExactIsUrgentFirst_own : ownKnob Try.prog.godebug = none := by kernel_rfl
set_option maxRecDepth 100000 in
theorem fnExactIsUrgentFirst_lifted (os : Os) (started : os.Started) (H : Type) (enc : TypeId × Value → H) :
    ReturnsInHanded {} Try.checked os 3 .any (Rows.fnExactIsUrgentFirstSpec.pre6 enc Try.prog Try.f3 Rows.fnExactIsUrgentFirstRow.domain false) (Rows.fnExactIsUrgentFirstSpec.post enc Try.prog Try.f3 false true false false) := by
  refine returnsInHanded_of_change (C := Try.checked) fnExactIsUrgentFirst_own started (by kernel_rfl) Try.func3
    (ChangeSpec.witness6 (enc := enc) (C := Try.checked) false ⟨#[], #[.agg #[.bool false, .int .i64 0, .int .i64 0, .int .i64 0, .int .i64 0, .int .i64 0, .int .i64 0, .int .i64 0, .int .i64 0, .int .i64 0, .int .i64 0, .int .i64 0, .int .i64 0, .int .i64 0, .int .i64 0, .int .i64 0, .int .i64 0, .slice none 0 0, .int .i64 0, .int .i64 0, .int .i64 0, .int .i64 0, .int .i64 0, .int .i64 0, .int .i64 0, .int .i64 0, .int .i64 0, .int .i64 0, .int .i64 0, .int .i64 0, .int .i64 0, .int .i64 0, .int .i64 0, .int .i64 0, .int .i64 0, .int .i64 0, .int .i64 0, .int .i64 0, .int .i64 0, .int .i64 0, .int .i64 0, .int .i64 0, .bool false, .bool false, .bool false, .int .i64 0, .int .i64 0, .slice none 0 0, .int .i64 0, .int .i64 0], .slice none 0 0], []⟩ 8 (by kernel_rfl) (by kernel_rfl) (by kernel_rfl) (by kernel_rfl)) ?_
  intro W base args ds gs before hval hW _ _
  exact law_contract ok_laws_FnExactIsUrgentFirst law_true rfl (fun H ds h => by
    match ds, h with
    | [d0, d1], _ => rfl) (by kernel_rfl) (by kernel_rfl) rfl Try.underlying4 W base args ds gs before hval trivial hW
/-- The law returns true for all arguments. -/
theorem fnExactIsUrgentFirst_proved : Rows.FnExactIsUrgentFirstSaid :=
  OpenClaim.holds_of_wide 3 Try.f3 rfl rfl rfl rfl rfl rfl rfl ⟨rfl, rfl, rfl, rfl, rfl⟩ rfl rfl rfl rfl rfl (by kernel_rfl) Try.func3 (by kernel_rfl)
    (of_decide_eq_true (by kernel_rfl)) (by unfold Func.isWrapper; first | (rw [if_pos (by decide +kernel)]; kernel_rfl) | (rw [if_neg (by decide +kernel)]; exact ⟨rfl, rfl⟩))
    (fun os started H enc _ => fnExactIsUrgentFirst_lifted os started H enc)
#print axioms fnExactIsUrgentFirst_proved
end Go.Proofs.Ytgdhcchnhjlenaa

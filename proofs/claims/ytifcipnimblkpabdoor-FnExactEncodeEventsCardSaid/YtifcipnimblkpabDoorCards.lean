/-
  DERIVED. GIVEN WITH THE SEED: THE CARDS: each row of YtifcipnimblkpabDoorRows.lean that lists a variable, with what it lists TIED to the program's text (the seventh form; the later family's looks); each row that meets fmt, with fmt's text TOLD by the authors' own Lean function (tested against real Go, not proved from fmt's source: count such statements apart). THE CARD IS WHAT COUNTS. Prove the row's statement (the work); the ties are given (YtifcipnimblkpabDoorTie.lean); close each card by the builder's one call (the guide's Derived/Test/ToyasCard.lean, 'card_holds'). Laid BY PROGRAM, IN A SANDBOX (cutbox-door.mjs). By AI agents, Wed Nov 11 2026. No macro, syntax, notation, axiom, sorry.
-/
import Derived.Test.YtifcipnimblkpabDoorRows
import GoSem.ClaimSeven
namespace Go.Proofs.YtifcipnimblkpabDoor
namespace Rows

/-- THE TIED CARD OF 'laws.FnExactTrackLine'. -/
def fnExactTrackLineCard : Claim7 := { stood := { row := fnExactTrackLineRow, standIns := [], harness := (true, "637caaf47782b3718ff8e810f3a1a7048b06e80de1e1fed0c09b9ec92bac2b7f"), looks := false }, kinds := [], alts := [], laidByText := true, laidKinds := [.data, .data, .data], laidTests := true, laidLooks := .later }
def FnExactTrackLineCardSaid : Prop := Claim7.holds Tryd.pinned (.plain (OpenSpec.ofChange fnExactTrackLineSpec)) fnExactTrackLineCard

/-- THE TIED CARD OF 'laws.FnExactFormatLetters'. -/
def fnExactFormatLettersCard : Claim7 := { stood := { row := fnExactFormatLettersRow, standIns := [], harness := (true, "637caaf47782b3718ff8e810f3a1a7048b06e80de1e1fed0c09b9ec92bac2b7f"), looks := false }, kinds := [], alts := [], laidByText := true, laidKinds := [.data, .data, .data], laidTests := true, laidLooks := .later }
def FnExactFormatLettersCardSaid : Prop := Claim7.holds Tryd.pinned (.plain (OpenSpec.ofChange fnExactFormatLettersSpec)) fnExactFormatLettersCard

/-- THE TIED CARD OF 'laws.FnExactEncodeEvents'. -/
def fnExactEncodeEventsCard : Claim7 := { stood := { row := fnExactEncodeEventsRow, standIns := [], harness := (true, "637caaf47782b3718ff8e810f3a1a7048b06e80de1e1fed0c09b9ec92bac2b7f"), looks := false }, kinds := [], alts := [], laidByText := true, laidKinds := [.data, .data, .data, .data], laidTests := true, laidLooks := .later }
def FnExactEncodeEventsCardSaid : Prop := Claim7.holds Tryd.pinned (.plain (OpenSpec.ofChange fnExactEncodeEventsSpec)) fnExactEncodeEventsCard

/-- THE TIED CARD OF 'laws.FnExactFormatFrame'. -/
def fnExactFormatFrameCard : Claim7 := { stood := { row := fnExactFormatFrameRow, standIns := [], harness := (true, "637caaf47782b3718ff8e810f3a1a7048b06e80de1e1fed0c09b9ec92bac2b7f"), looks := false }, kinds := [], alts := [], laidByText := true, laidKinds := [.data, .data, .data], laidTests := true, laidLooks := .later }
def FnExactFormatFrameCardSaid : Prop := Claim7.holds Tryd.pinned (.plain (OpenSpec.ofChange fnExactFormatFrameSpec)) fnExactFormatFrameCard

/-- THE TIED CARD OF 'laws.FnExactFormatFrames'. -/
def fnExactFormatFramesCard : Claim7 := { stood := { row := fnExactFormatFramesRow, standIns := [], harness := (true, "637caaf47782b3718ff8e810f3a1a7048b06e80de1e1fed0c09b9ec92bac2b7f"), looks := false }, kinds := [], alts := [], laidByText := true, laidKinds := [.data, .data, .data], laidTests := true, laidLooks := .later }
def FnExactFormatFramesCardSaid : Prop := Claim7.holds Tryd.pinned (.plain (OpenSpec.ofChange fnExactFormatFramesSpec)) fnExactFormatFramesCard

/-- THE SECOND FORM's CARD OF 'laws.FnExactTrackLine'. -/
def fnExactTrackLineUptoCard : Claim7 := { stood := { row := fnExactTrackLineUptoRow, standIns := [], harness := (true, "637caaf47782b3718ff8e810f3a1a7048b06e80de1e1fed0c09b9ec92bac2b7f"), looks := false }, kinds := [], alts := [], laidByText := true, laidKinds := [.data, .data, .data], laidTests := true, laidLooks := .later }
def FnExactTrackLineUptoCardSaid : Prop := Claim7.holds Tryd.pinned (.plain (OpenSpec.upto fnExactTrackLineSpec)) fnExactTrackLineUptoCard

/-- THE SECOND FORM's CARD OF 'laws.FnExactFormatLetters'. -/
def fnExactFormatLettersUptoCard : Claim7 := { stood := { row := fnExactFormatLettersUptoRow, standIns := [], harness := (true, "637caaf47782b3718ff8e810f3a1a7048b06e80de1e1fed0c09b9ec92bac2b7f"), looks := false }, kinds := [], alts := [], laidByText := true, laidKinds := [.data, .data, .data], laidTests := true, laidLooks := .later }
def FnExactFormatLettersUptoCardSaid : Prop := Claim7.holds Tryd.pinned (.plain (OpenSpec.upto fnExactFormatLettersSpec)) fnExactFormatLettersUptoCard

/-- THE SECOND FORM's CARD OF 'laws.FnExactEncodeEvents'. -/
def fnExactEncodeEventsUptoCard : Claim7 := { stood := { row := fnExactEncodeEventsUptoRow, standIns := [], harness := (true, "637caaf47782b3718ff8e810f3a1a7048b06e80de1e1fed0c09b9ec92bac2b7f"), looks := false }, kinds := [], alts := [], laidByText := true, laidKinds := [.data, .data, .data, .data], laidTests := true, laidLooks := .later }
def FnExactEncodeEventsUptoCardSaid : Prop := Claim7.holds Tryd.pinned (.plain (OpenSpec.upto fnExactEncodeEventsSpec)) fnExactEncodeEventsUptoCard

/-- THE SECOND FORM's CARD OF 'laws.FnExactFormatFrame'. -/
def fnExactFormatFrameUptoCard : Claim7 := { stood := { row := fnExactFormatFrameUptoRow, standIns := [], harness := (true, "637caaf47782b3718ff8e810f3a1a7048b06e80de1e1fed0c09b9ec92bac2b7f"), looks := false }, kinds := [], alts := [], laidByText := true, laidKinds := [.data, .data, .data], laidTests := true, laidLooks := .later }
def FnExactFormatFrameUptoCardSaid : Prop := Claim7.holds Tryd.pinned (.plain (OpenSpec.upto fnExactFormatFrameSpec)) fnExactFormatFrameUptoCard

/-- THE SECOND FORM's CARD OF 'laws.FnExactFormatFrames'. -/
def fnExactFormatFramesUptoCard : Claim7 := { stood := { row := fnExactFormatFramesUptoRow, standIns := [], harness := (true, "637caaf47782b3718ff8e810f3a1a7048b06e80de1e1fed0c09b9ec92bac2b7f"), looks := false }, kinds := [], alts := [], laidByText := true, laidKinds := [.data, .data, .data], laidTests := true, laidLooks := .later }
def FnExactFormatFramesUptoCardSaid : Prop := Claim7.holds Tryd.pinned (.plain (OpenSpec.upto fnExactFormatFramesSpec)) fnExactFormatFramesUptoCard
end Rows
end Go.Proofs.YtifcipnimblkpabDoor

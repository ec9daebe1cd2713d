/-
  DERIVED. GIVEN WITH THE SEED: THE CARDS: each row of YtbcdobkgmgngmaaDoorRows.lean that lists a variable, with what it lists TIED to the program's text (the seventh form; the later family's looks); each row that meets fmt, with fmt's text TOLD by the authors' own Lean function (tested against real Go, not proved from fmt's source: count such statements apart). THE CARD IS WHAT COUNTS. Prove the row's statement (the work); the ties are given (YtbcdobkgmgngmaaDoorTie.lean); close each card by the builder's one call (the guide's Derived/Test/ToyasCard.lean, 'card_holds'). Laid BY PROGRAM, IN A SANDBOX (cutbox-door.mjs). By AI agents, Wed Nov 11 2026. No macro, syntax, notation, axiom, sorry.
-/
import Derived.Test.YtbcdobkgmgngmaaDoorRows
import GoSem.ClaimSeven
namespace Go.Proofs.YtbcdobkgmgngmaaDoor
namespace Rows

/-- THE TIED CARD OF 'laws.FnExactDecodeEvents'. -/
def fnExactDecodeEventsCard : Claim7 := { stood := { row := fnExactDecodeEventsRow, standIns := [], harness := (true, "e3275543bc6b5bb421b5abbb8b25c0df4b14f35a338a48c3efde3a09f5eb002f"), looks := true }, kinds := [], alts := [], laidByText := true, laidKinds := [.data, .data, .data, .data, .sentinel, .sentinel, .data, .pinned], laidTests := true, laidLooks := .later }
def FnExactDecodeEventsCardSaid : Prop := Claim7.holds Tryd.pinned (.plain (OpenSpec.ofChange fnExactDecodeEventsSpec)) fnExactDecodeEventsCard

/-- THE TIED CARD OF 'laws.FnExactParseFrame'. -/
def fnExactParseFrameCard : Claim7 := { stood := { row := fnExactParseFrameRow, standIns := [], harness := (true, "e3275543bc6b5bb421b5abbb8b25c0df4b14f35a338a48c3efde3a09f5eb002f"), looks := true }, kinds := [], alts := [], laidByText := true, laidKinds := [.data, .data, .data, .data, .sentinel, .sentinel, .pinned], laidTests := true, laidLooks := .later }
def FnExactParseFrameCardSaid : Prop := Claim7.holds Tryd.pinned (.plain (OpenSpec.ofChange fnExactParseFrameSpec)) fnExactParseFrameCard

/-- THE SECOND FORM's CARD OF 'laws.FnExactDecodeEvents'. -/
def fnExactDecodeEventsUptoCard : Claim7 := { stood := { row := fnExactDecodeEventsUptoRow, standIns := [], harness := (true, "e3275543bc6b5bb421b5abbb8b25c0df4b14f35a338a48c3efde3a09f5eb002f"), looks := true }, kinds := [], alts := [], laidByText := true, laidKinds := [.data, .data, .data, .data, .sentinel, .sentinel, .data, .pinned], laidTests := true, laidLooks := .later }
def FnExactDecodeEventsUptoCardSaid : Prop := Claim7.holds Tryd.pinned (.plain (OpenSpec.upto fnExactDecodeEventsSpec)) fnExactDecodeEventsUptoCard

/-- THE SECOND FORM's CARD OF 'laws.FnExactParseFrame'. -/
def fnExactParseFrameUptoCard : Claim7 := { stood := { row := fnExactParseFrameUptoRow, standIns := [], harness := (true, "e3275543bc6b5bb421b5abbb8b25c0df4b14f35a338a48c3efde3a09f5eb002f"), looks := true }, kinds := [], alts := [], laidByText := true, laidKinds := [.data, .data, .data, .data, .sentinel, .sentinel, .pinned], laidTests := true, laidLooks := .later }
def FnExactParseFrameUptoCardSaid : Prop := Claim7.holds Tryd.pinned (.plain (OpenSpec.upto fnExactParseFrameSpec)) fnExactParseFrameUptoCard
end Rows
end Go.Proofs.YtbcdobkgmgngmaaDoor

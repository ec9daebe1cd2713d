/-
  DERIVED. GIVEN WITH THE SEED: THE CARDS: each row of YtdhcpaebmpmihaaGreatDoorRows.lean that lists a variable, with what it lists TIED to the program's text (the seventh form; the later family's looks); each row that meets fmt, with fmt's text TOLD by the authors' own Lean function (tested against real Go, not proved from fmt's source: count such statements apart). THE CARD IS WHAT COUNTS. Prove the row's statement (the work); the ties are given (YtdhcpaebmpmihaaGreatDoorTie.lean); close each card by the builder's one call (the guide's Derived/Test/ToyasCard.lean, 'card_holds'). Laid BY PROGRAM, IN A SANDBOX (cutbox-door.mjs). By AI agents, Wed Nov 11 2026. No macro, syntax, notation, axiom, sorry.
-/
import Derived.Test.YtdhcpaebmpmihaaGreatDoorRows
import GoSem.ClaimSeven
namespace Go.Proofs.YtdhcpaebmpmihaaGreatDoor
namespace Rows

/-- THE TIED CARD OF 'laws.FnExactTrackLines'. -/
def fnExactTrackLinesCard : Claim7 := { stood := { row := fnExactTrackLinesRow, standIns := [], harness := (true, "c7bf9875f2ddabb9594fa4bfaa55ee11a6616e70098db86ae0cbc43b9b3f3f05"), looks := false }, kinds := [], alts := [], laidByText := true, laidKinds := [.data, .data, .data], laidTests := true, laidLooks := .later }
def FnExactTrackLinesCardSaid : Prop := Claim7.holds Tryz.pinned (.plain (OpenSpec.ofChange fnExactTrackLinesSpec)) fnExactTrackLinesCard

/-- THE SECOND FORM's CARD OF 'laws.FnExactTrackLines'. -/
def fnExactTrackLinesUptoCard : Claim7 := { stood := { row := fnExactTrackLinesUptoRow, standIns := [], harness := (true, "c7bf9875f2ddabb9594fa4bfaa55ee11a6616e70098db86ae0cbc43b9b3f3f05"), looks := false }, kinds := [], alts := [], laidByText := true, laidKinds := [.data, .data, .data], laidTests := true, laidLooks := .later }
def FnExactTrackLinesUptoCardSaid : Prop := Claim7.holds Tryz.pinned (.plain (OpenSpec.upto fnExactTrackLinesSpec)) fnExactTrackLinesUptoCard
end Rows
end Go.Proofs.YtdhcpaebmpmihaaGreatDoor

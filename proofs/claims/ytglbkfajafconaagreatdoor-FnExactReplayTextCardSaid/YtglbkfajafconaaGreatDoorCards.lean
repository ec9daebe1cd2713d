/-
  DERIVED. GIVEN WITH THE SEED: THE CARDS: each row of YtglbkfajafconaaGreatDoorRows.lean that lists a variable, with what it lists TIED to the program's text (the seventh form; the later family's looks); each row that meets fmt, with fmt's text TOLD by the authors' own Lean function (tested against real Go, not proved from fmt's source: count such statements apart). THE CARD IS WHAT COUNTS. Prove the row's statement (the work); the ties are given (YtglbkfajafconaaGreatDoorTie.lean); close each card by the builder's one call (the guide's Derived/Test/ToyasCard.lean, 'card_holds'). Laid BY PROGRAM, IN A SANDBOX (cutbox-door.mjs). By AI agents, Wed Nov 11 2026. No macro, syntax, notation, axiom, sorry.
-/
import Derived.Test.YtglbkfajafconaaGreatDoorRows
import GoSem.ClaimSeven
namespace Go.Proofs.YtglbkfajafconaaGreatDoor
namespace Rows

/-- THE TIED CARD OF 'laws.FnExactReplayText'. -/
def fnExactReplayTextCard : Claim7 := { stood := { row := fnExactReplayTextRow, standIns := [], harness := (true, "367a62890ccc3f30f59ca1f0721b0ab38e9a5c823395601a87f73175d558e5e5"), looks := true }, kinds := [], alts := [], laidByText := true, laidKinds := [.pinned, .data, .data, .sentinel, .sentinel, .data, .data, .data], laidTests := true, laidLooks := .later }
def FnExactReplayTextCardSaid : Prop := Claim7.holds Tryz.pinned (.plain (OpenSpec.ofChange fnExactReplayTextSpec)) fnExactReplayTextCard

/-- THE SECOND FORM's CARD OF 'laws.FnExactReplayText'. -/
def fnExactReplayTextUptoCard : Claim7 := { stood := { row := fnExactReplayTextUptoRow, standIns := [], harness := (true, "367a62890ccc3f30f59ca1f0721b0ab38e9a5c823395601a87f73175d558e5e5"), looks := true }, kinds := [], alts := [], laidByText := true, laidKinds := [.pinned, .data, .data, .sentinel, .sentinel, .data, .data, .data], laidTests := true, laidLooks := .later }
def FnExactReplayTextUptoCardSaid : Prop := Claim7.holds Tryz.pinned (.plain (OpenSpec.upto fnExactReplayTextSpec)) fnExactReplayTextUptoCard
end Rows
end Go.Proofs.YtglbkfajafconaaGreatDoor

/-
  No cell of these rows narrows 'for every input' (looked for: loops, veiled, ifaces, maps, wideKeys, modest, calm, conditions, laid).
  DERIVED. THE GIVEN ROWS OF THIS SEAT. 6 by the template 'for every input the law returns true; each argument reads behind the call as it read before'; 0 by the template 'total and deterministic' (their statements: YtifcipnimblkpaaTotals.lean).
  GIVEN WITH THE SEED: the statements are not yours to turn. If you find one false, say at which input.
  Laid BY PROGRAM, IN A SANDBOX (cutbox-rows.mjs): the forced cells as the released guide's own fill.sh prints them over the translation fde27a34c69626fe… (all of the seat's roots in one cut). By AI agents, Wed Nov 11 2026. No macro, syntax, notation, axiom, sorry.
-/
import Derived.Test.YtifcipnimblkpaaChecked
import GoSem.Claim
import GoSem.ClaimJoined
import GoSem.ClaimMapViews
import Derived.JoinedTies
import Derived.KernelRfl
namespace Go.Proofs.Ytifcipnimblkpaa
/- THE CELL 'sum', in the pinned program and in every row, IS THE sha256 OF THE DUMP (.gsa) THAT YtifcipnimblkpaaProg.lean LOADS. Nothing in Lean hashes anything: it is a label: what it is worth is what the hold of that sum in a sandbox is worth. -/
noncomputable def Try.pinned : Pinned := { name := "ytifcipnimblkpaa", sum := "fde27a34c69626fea327cffa26daf2a1282327fe6c6f5f6928be313e27408747", checked := Try.checked }
namespace Rows
def none {H : Type} : Left H := { results := [], args := [] }

/-- 'laws.FnExactOrderOf': WHATEVER THE INPUT: true; the input reads as it did. -/
def fnExactOrderOfSpec : ChangeSpec := { name := "fnExactOrderOf", fn := fun _ => fun
  | [d] => { results := [.lit (.bool true)], args := [d] }
  | _ => none }
def fnExactOrderOfRow : OpenClaim := { program := "ytifcipnimblkpaa", sum := "fde27a34c69626fea327cffa26daf2a1282327fe6c6f5f6928be313e27408747", func := "loop.example/g01633/laws.FnExactOrderOf", spec := "fnExactOrderOf", apart := false }
def FnExactOrderOfSaid : Prop := fnExactOrderOfRow.holds Try.pinned (OpenSpec.ofChange fnExactOrderOfSpec)

/-- ITS FALSE NEIGHBOUR: 'it returns false'. Refute it at one input. -/
def fnExactOrderOfWrong : ChangeSpec := { name := "fnExactOrderOf", fn := fun _ => fun
  | [d] => { results := [.lit (.bool false)], args := [d] }
  | _ => none }
def FnExactOrderOfWrongFalsely : Prop := fnExactOrderOfRow.holds Try.pinned (OpenSpec.ofChange fnExactOrderOfWrong)

/-- 'laws.FnExactFeedWindow': WHATEVER THE INPUT: true; the input reads as it did. -/
def fnExactFeedWindowSpec : ChangeSpec := { name := "fnExactFeedWindow", fn := fun _ => fun
  | [d1, d2, d3] => { results := [.lit (.bool true)], args := [d1, d2, d3] }
  | _ => none }
def fnExactFeedWindowRow : OpenClaim := { program := "ytifcipnimblkpaa", sum := "fde27a34c69626fea327cffa26daf2a1282327fe6c6f5f6928be313e27408747", func := "loop.example/g01633/laws.FnExactFeedWindow", spec := "fnExactFeedWindow", apart := false }
def FnExactFeedWindowSaid : Prop := fnExactFeedWindowRow.holds Try.pinned (OpenSpec.ofChange fnExactFeedWindowSpec)

/-- ITS FALSE NEIGHBOUR: 'it returns false'. Refute it at one input. -/
def fnExactFeedWindowWrong : ChangeSpec := { name := "fnExactFeedWindow", fn := fun _ => fun
  | [d1, d2, d3] => { results := [.lit (.bool false)], args := [d1, d2, d3] }
  | _ => none }
def FnExactFeedWindowWrongFalsely : Prop := fnExactFeedWindowRow.holds Try.pinned (OpenSpec.ofChange fnExactFeedWindowWrong)

/-- 'laws.FnExactFramesNeeded': WHATEVER THE INPUT: true; the input reads as it did. -/
def fnExactFramesNeededSpec : ChangeSpec := { name := "fnExactFramesNeeded", fn := fun _ => fun
  | [d1, d2, d3] => { results := [.lit (.bool true)], args := [d1, d2, d3] }
  | _ => none }
def fnExactFramesNeededRow : OpenClaim := { program := "ytifcipnimblkpaa", sum := "fde27a34c69626fea327cffa26daf2a1282327fe6c6f5f6928be313e27408747", func := "loop.example/g01633/laws.FnExactFramesNeeded", spec := "fnExactFramesNeeded", apart := false }
def FnExactFramesNeededSaid : Prop := fnExactFramesNeededRow.holds Try.pinned (OpenSpec.ofChange fnExactFramesNeededSpec)

/-- ITS FALSE NEIGHBOUR: 'it returns false'. Refute it at one input. -/
def fnExactFramesNeededWrong : ChangeSpec := { name := "fnExactFramesNeeded", fn := fun _ => fun
  | [d1, d2, d3] => { results := [.lit (.bool false)], args := [d1, d2, d3] }
  | _ => none }
def FnExactFramesNeededWrongFalsely : Prop := fnExactFramesNeededRow.holds Try.pinned (OpenSpec.ofChange fnExactFramesNeededWrong)

/-- 'laws.FnExactLimitsOf': WHATEVER THE INPUT: true; the input reads as it did. -/
def fnExactLimitsOfSpec : ChangeSpec := { name := "fnExactLimitsOf", fn := fun _ => fun
  | [d1, d2, d3] => { results := [.lit (.bool true)], args := [d1, d2, d3] }
  | _ => none }
def fnExactLimitsOfRow : OpenClaim := { program := "ytifcipnimblkpaa", sum := "fde27a34c69626fea327cffa26daf2a1282327fe6c6f5f6928be313e27408747", func := "loop.example/g01633/laws.FnExactLimitsOf", spec := "fnExactLimitsOf", apart := false }
def FnExactLimitsOfSaid : Prop := fnExactLimitsOfRow.holds Try.pinned (OpenSpec.ofChange fnExactLimitsOfSpec)

/-- ITS FALSE NEIGHBOUR: 'it returns false'. Refute it at one input. -/
def fnExactLimitsOfWrong : ChangeSpec := { name := "fnExactLimitsOf", fn := fun _ => fun
  | [d1, d2, d3] => { results := [.lit (.bool false)], args := [d1, d2, d3] }
  | _ => none }
def FnExactLimitsOfWrongFalsely : Prop := fnExactLimitsOfRow.holds Try.pinned (OpenSpec.ofChange fnExactLimitsOfWrong)

/-- 'laws.FnExactSizesOf': WHATEVER THE INPUT: true; the input reads as it did. -/
def fnExactSizesOfSpec : ChangeSpec := { name := "fnExactSizesOf", fn := fun _ => fun
  | [d1, d2, d3] => { results := [.lit (.bool true)], args := [d1, d2, d3] }
  | _ => none }
def fnExactSizesOfRow : OpenClaim := { program := "ytifcipnimblkpaa", sum := "fde27a34c69626fea327cffa26daf2a1282327fe6c6f5f6928be313e27408747", func := "loop.example/g01633/laws.FnExactSizesOf", spec := "fnExactSizesOf", apart := false }
def FnExactSizesOfSaid : Prop := fnExactSizesOfRow.holds Try.pinned (OpenSpec.ofChange fnExactSizesOfSpec)

/-- ITS FALSE NEIGHBOUR: 'it returns false'. Refute it at one input. -/
def fnExactSizesOfWrong : ChangeSpec := { name := "fnExactSizesOf", fn := fun _ => fun
  | [d1, d2, d3] => { results := [.lit (.bool false)], args := [d1, d2, d3] }
  | _ => none }
def FnExactSizesOfWrongFalsely : Prop := fnExactSizesOfRow.holds Try.pinned (OpenSpec.ofChange fnExactSizesOfWrong)

/-- 'laws.FnSchedules': WHATEVER THE INPUT: true; the input reads as it did. -/
def fnSchedulesSpec : ChangeSpec := { name := "fnSchedules", fn := fun _ => fun
  | [d] => { results := [.lit (.bool true)], args := [d] }
  | _ => none }
def fnSchedulesRow : OpenClaim := { program := "ytifcipnimblkpaa", sum := "fde27a34c69626fea327cffa26daf2a1282327fe6c6f5f6928be313e27408747", func := "loop.example/g01633/laws.FnSchedules", spec := "fnSchedules", apart := false }
def FnSchedulesSaid : Prop := fnSchedulesRow.holds Try.pinned (OpenSpec.ofChange fnSchedulesSpec)

/-- ITS FALSE NEIGHBOUR: 'it returns false'. Refute it at one input. -/
def fnSchedulesWrong : ChangeSpec := { name := "fnSchedules", fn := fun _ => fun
  | [d] => { results := [.lit (.bool false)], args := [d] }
  | _ => none }
def FnSchedulesWrongFalsely : Prop := fnSchedulesRow.holds Try.pinned (OpenSpec.ofChange fnSchedulesWrong)

/- THE SECOND FORM. 'bulk': how many values and letters a reading holds, each counted each time it is reached (what is shared counts as often as it is met; a slice's spare places count too). A statement '..UptoSaid' is the law's where the arguments, and the package variables that the reading takes, are together of bulk at most 1048576: NARROWER than '..Said'. Prove '..Said' where nothing that the law and all that it calls make is longer than what came in: it says more and counts as full. Else prove '..UptoSaid'. A law counts once. -/
mutual
def uptoBulk {H : Type} : DataW H → Nat
  | .lit (.string bytes) => bytes.length + 1
  | .lit _ => 1
  | .nil => 1
  | .ptr d => uptoBulk d + 1
  | .slice elems spare => uptoBulkAll elems + uptoBulkAll spare + 1
  | .agg parts => uptoBulkAll parts + 1
  | .iface _ d => uptoBulk d + 1
  | .map entries => uptoBulkEntries entries + 1
  | .held _ => 1
def uptoBulkAll {H : Type} : List (DataW H) → Nat
  | [] => 0
  | d :: r => uptoBulk d + uptoBulkAll r
def uptoBulkEntries {H : Type} : List (Lit × DataW H) → Nat
  | [] => 0
  | x :: r => uptoBulkEntry x + uptoBulkEntries r
def uptoBulkEntry {H : Type} : Lit × DataW H → Nat
  | (.string bytes, d) => bytes.length + uptoBulk d + 1
  | (_, d) => uptoBulk d + 1
 end
def uptoSmall : (H : Type) → List (DataW H) → Bool := fun _ ds => decide (uptoBulkAll ds ≤ 1048576)
def OpenSpec.upto (s : _root_.Go.ChangeSpec) : _root_.Go.OpenSpec := { _root_.Go.OpenSpec.ofChange s with cond := some uptoSmall }

/-- 'laws.FnExactOrderOf', WHERE WHAT IT READS IS OF BULK AT MOST 1048576: true; the input reads as it did. -/
def fnExactOrderOfUptoRow : OpenClaim := { program := "ytifcipnimblkpaa", sum := "fde27a34c69626fea327cffa26daf2a1282327fe6c6f5f6928be313e27408747", func := "loop.example/g01633/laws.FnExactOrderOf", spec := "fnExactOrderOf", apart := false, narrowed := true }
def FnExactOrderOfUptoSaid : Prop := fnExactOrderOfUptoRow.holds Try.pinned (OpenSpec.upto fnExactOrderOfSpec)

/-- 'laws.FnExactFeedWindow', WHERE WHAT IT READS IS OF BULK AT MOST 1048576: true; the input reads as it did. -/
def fnExactFeedWindowUptoRow : OpenClaim := { program := "ytifcipnimblkpaa", sum := "fde27a34c69626fea327cffa26daf2a1282327fe6c6f5f6928be313e27408747", func := "loop.example/g01633/laws.FnExactFeedWindow", spec := "fnExactFeedWindow", apart := false, narrowed := true }
def FnExactFeedWindowUptoSaid : Prop := fnExactFeedWindowUptoRow.holds Try.pinned (OpenSpec.upto fnExactFeedWindowSpec)

/-- 'laws.FnExactFramesNeeded', WHERE WHAT IT READS IS OF BULK AT MOST 1048576: true; the input reads as it did. -/
def fnExactFramesNeededUptoRow : OpenClaim := { program := "ytifcipnimblkpaa", sum := "fde27a34c69626fea327cffa26daf2a1282327fe6c6f5f6928be313e27408747", func := "loop.example/g01633/laws.FnExactFramesNeeded", spec := "fnExactFramesNeeded", apart := false, narrowed := true }
def FnExactFramesNeededUptoSaid : Prop := fnExactFramesNeededUptoRow.holds Try.pinned (OpenSpec.upto fnExactFramesNeededSpec)

/-- 'laws.FnExactLimitsOf', WHERE WHAT IT READS IS OF BULK AT MOST 1048576: true; the input reads as it did. -/
def fnExactLimitsOfUptoRow : OpenClaim := { program := "ytifcipnimblkpaa", sum := "fde27a34c69626fea327cffa26daf2a1282327fe6c6f5f6928be313e27408747", func := "loop.example/g01633/laws.FnExactLimitsOf", spec := "fnExactLimitsOf", apart := false, narrowed := true }
def FnExactLimitsOfUptoSaid : Prop := fnExactLimitsOfUptoRow.holds Try.pinned (OpenSpec.upto fnExactLimitsOfSpec)

/-- 'laws.FnExactSizesOf', WHERE WHAT IT READS IS OF BULK AT MOST 1048576: true; the input reads as it did. -/
def fnExactSizesOfUptoRow : OpenClaim := { program := "ytifcipnimblkpaa", sum := "fde27a34c69626fea327cffa26daf2a1282327fe6c6f5f6928be313e27408747", func := "loop.example/g01633/laws.FnExactSizesOf", spec := "fnExactSizesOf", apart := false, narrowed := true }
def FnExactSizesOfUptoSaid : Prop := fnExactSizesOfUptoRow.holds Try.pinned (OpenSpec.upto fnExactSizesOfSpec)

/-- 'laws.FnSchedules', WHERE WHAT IT READS IS OF BULK AT MOST 1048576: true; the input reads as it did. -/
def fnSchedulesUptoRow : OpenClaim := { program := "ytifcipnimblkpaa", sum := "fde27a34c69626fea327cffa26daf2a1282327fe6c6f5f6928be313e27408747", func := "loop.example/g01633/laws.FnSchedules", spec := "fnSchedules", apart := false, narrowed := true }
def FnSchedulesUptoSaid : Prop := fnSchedulesUptoRow.holds Try.pinned (OpenSpec.upto fnSchedulesSpec)

end Rows
end Go.Proofs.Ytifcipnimblkpaa

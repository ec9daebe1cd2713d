/-
  No cell of these rows narrows 'for every input' (looked for: loops, veiled, ifaces, maps, wideKeys, modest, calm, conditions, laid).
  DERIVED. THE GIVEN ROWS OF THIS SEAT. 6 by the template 'for every input the law returns true; each argument reads behind the call as it read before'; 0 by the template 'total and deterministic' (their statements: YtnfmhhhnjfpijaaTotals.lean).
  GIVEN WITH THE SEED: the statements are not yours to turn. If you find one false, say at which input.
  Laid BY PROGRAM, IN A SANDBOX (cutbox-rows.mjs): the forced cells as the released guide's own fill.sh prints them over the translation 9b0e80679b1ba839… (all of the seat's roots in one cut). By AI agents, Wed Nov 11 2026. No macro, syntax, notation, axiom, sorry.
-/
import Derived.Test.YtnfmhhhnjfpijaaChecked
import GoSem.Claim
import GoSem.ClaimJoined
import GoSem.ClaimMapViews
import Derived.JoinedTies
import Derived.KernelRfl
namespace Go.Proofs.Ytnfmhhhnjfpijaa
/- THE CELL 'sum', in the pinned program and in every row, IS THE sha256 OF THE DUMP (.gsa) THAT YtnfmhhhnjfpijaaProg.lean LOADS. Nothing in Lean hashes anything: it is a label: what it is worth is what the hold of that sum in a sandbox is worth. -/
noncomputable def Try.pinned : Pinned := { name := "ytnfmhhhnjfpijaa", sum := "9b0e80679b1ba8397a901057931ea1e699560f1fb456c6f7fdd05af6db02252a", checked := Try.checked }
namespace Rows
def none {H : Type} : Left H := { results := [], args := [] }

/-- 'laws.FnExactIsPrefixOf': WHATEVER THE INPUT: true; the input reads as it did. -/
def fnExactIsPrefixOfSpec : ChangeSpec := { name := "fnExactIsPrefixOf", fn := fun _ => fun
  | [d1, d2] => { results := [.lit (.bool true)], args := [d1, d2] }
  | _ => none }
def fnExactIsPrefixOfRow : OpenClaim := { program := "ytnfmhhhnjfpijaa", sum := "9b0e80679b1ba8397a901057931ea1e699560f1fb456c6f7fdd05af6db02252a", func := "loop.example/g01633/laws.FnExactIsPrefixOf", spec := "fnExactIsPrefixOf", apart := false }
def FnExactIsPrefixOfSaid : Prop := fnExactIsPrefixOfRow.holds Try.pinned (OpenSpec.ofChange fnExactIsPrefixOfSpec)

/-- ITS FALSE NEIGHBOUR: 'it returns false'. Refute it at one input. -/
def fnExactIsPrefixOfWrong : ChangeSpec := { name := "fnExactIsPrefixOf", fn := fun _ => fun
  | [d1, d2] => { results := [.lit (.bool false)], args := [d1, d2] }
  | _ => none }
def FnExactIsPrefixOfWrongFalsely : Prop := fnExactIsPrefixOfRow.holds Try.pinned (OpenSpec.ofChange fnExactIsPrefixOfWrong)

/-- 'laws.FnExactErrorName': WHATEVER THE INPUT: true; the input reads as it did. -/
def fnExactErrorNameSpec : ChangeSpec := { name := "fnExactErrorName", fn := fun _ => fun
  | [d] => { results := [.lit (.bool true)], args := [d] }
  | _ => none }
def fnExactErrorNameRow : OpenClaim := { program := "ytnfmhhhnjfpijaa", sum := "9b0e80679b1ba8397a901057931ea1e699560f1fb456c6f7fdd05af6db02252a", func := "loop.example/g01633/laws.FnExactErrorName", spec := "fnExactErrorName", apart := false }
def FnExactErrorNameSaid : Prop := fnExactErrorNameRow.holds Try.pinned (OpenSpec.ofChange fnExactErrorNameSpec)

/-- ITS FALSE NEIGHBOUR: 'it returns false'. Refute it at one input. -/
def fnExactErrorNameWrong : ChangeSpec := { name := "fnExactErrorName", fn := fun _ => fun
  | [d] => { results := [.lit (.bool false)], args := [d] }
  | _ => none }
def FnExactErrorNameWrongFalsely : Prop := fnExactErrorNameRow.holds Try.pinned (OpenSpec.ofChange fnExactErrorNameWrong)

/-- 'laws.FnExactIsRising': WHATEVER THE INPUT: true; the input reads as it did. -/
def fnExactIsRisingSpec : ChangeSpec := { name := "fnExactIsRising", fn := fun _ => fun
  | [d] => { results := [.lit (.bool true)], args := [d] }
  | _ => none }
def fnExactIsRisingRow : OpenClaim := { program := "ytnfmhhhnjfpijaa", sum := "9b0e80679b1ba8397a901057931ea1e699560f1fb456c6f7fdd05af6db02252a", func := "loop.example/g01633/laws.FnExactIsRising", spec := "fnExactIsRising", apart := false }
def FnExactIsRisingSaid : Prop := fnExactIsRisingRow.holds Try.pinned (OpenSpec.ofChange fnExactIsRisingSpec)

/-- ITS FALSE NEIGHBOUR: 'it returns false'. Refute it at one input. -/
def fnExactIsRisingWrong : ChangeSpec := { name := "fnExactIsRising", fn := fun _ => fun
  | [d] => { results := [.lit (.bool false)], args := [d] }
  | _ => none }
def FnExactIsRisingWrongFalsely : Prop := fnExactIsRisingRow.holds Try.pinned (OpenSpec.ofChange fnExactIsRisingWrong)

/-- 'laws.FnExactFirstDifference': WHATEVER THE INPUT: true; the input reads as it did. -/
def fnExactFirstDifferenceSpec : ChangeSpec := { name := "fnExactFirstDifference", fn := fun _ => fun
  | [d1, d2] => { results := [.lit (.bool true)], args := [d1, d2] }
  | _ => none }
def fnExactFirstDifferenceRow : OpenClaim := { program := "ytnfmhhhnjfpijaa", sum := "9b0e80679b1ba8397a901057931ea1e699560f1fb456c6f7fdd05af6db02252a", func := "loop.example/g01633/laws.FnExactFirstDifference", spec := "fnExactFirstDifference", apart := false }
def FnExactFirstDifferenceSaid : Prop := fnExactFirstDifferenceRow.holds Try.pinned (OpenSpec.ofChange fnExactFirstDifferenceSpec)

/-- ITS FALSE NEIGHBOUR: 'it returns false'. Refute it at one input. -/
def fnExactFirstDifferenceWrong : ChangeSpec := { name := "fnExactFirstDifference", fn := fun _ => fun
  | [d1, d2] => { results := [.lit (.bool false)], args := [d1, d2] }
  | _ => none }
def FnExactFirstDifferenceWrongFalsely : Prop := fnExactFirstDifferenceRow.holds Try.pinned (OpenSpec.ofChange fnExactFirstDifferenceWrong)

/-- 'laws.FnExactOutputDigest': WHATEVER THE INPUT: true; the input reads as it did. -/
def fnExactOutputDigestSpec : ChangeSpec := { name := "fnExactOutputDigest", fn := fun _ => fun
  | [d] => { results := [.lit (.bool true)], args := [d] }
  | _ => none }
def fnExactOutputDigestRow : OpenClaim := { program := "ytnfmhhhnjfpijaa", sum := "9b0e80679b1ba8397a901057931ea1e699560f1fb456c6f7fdd05af6db02252a", func := "loop.example/g01633/laws.FnExactOutputDigest", spec := "fnExactOutputDigest", apart := false }
def FnExactOutputDigestSaid : Prop := fnExactOutputDigestRow.holds Try.pinned (OpenSpec.ofChange fnExactOutputDigestSpec)

/-- ITS FALSE NEIGHBOUR: 'it returns false'. Refute it at one input. -/
def fnExactOutputDigestWrong : ChangeSpec := { name := "fnExactOutputDigest", fn := fun _ => fun
  | [d] => { results := [.lit (.bool false)], args := [d] }
  | _ => none }
def FnExactOutputDigestWrongFalsely : Prop := fnExactOutputDigestRow.holds Try.pinned (OpenSpec.ofChange fnExactOutputDigestWrong)

/-- 'laws.FnExactSpreadOf': WHATEVER THE INPUT: true; the input reads as it did. -/
def fnExactSpreadOfSpec : ChangeSpec := { name := "fnExactSpreadOf", fn := fun _ => fun
  | [d1, d2] => { results := [.lit (.bool true)], args := [d1, d2] }
  | _ => none }
def fnExactSpreadOfRow : OpenClaim := { program := "ytnfmhhhnjfpijaa", sum := "9b0e80679b1ba8397a901057931ea1e699560f1fb456c6f7fdd05af6db02252a", func := "loop.example/g01633/laws.FnExactSpreadOf", spec := "fnExactSpreadOf", apart := false }
def FnExactSpreadOfSaid : Prop := fnExactSpreadOfRow.holds Try.pinned (OpenSpec.ofChange fnExactSpreadOfSpec)

/-- ITS FALSE NEIGHBOUR: 'it returns false'. Refute it at one input. -/
def fnExactSpreadOfWrong : ChangeSpec := { name := "fnExactSpreadOf", fn := fun _ => fun
  | [d1, d2] => { results := [.lit (.bool false)], args := [d1, d2] }
  | _ => none }
def FnExactSpreadOfWrongFalsely : Prop := fnExactSpreadOfRow.holds Try.pinned (OpenSpec.ofChange fnExactSpreadOfWrong)

/- THE SECOND FORM. 'bulk': how many values and letters a reading holds, each counted each time it is reached (what is shared counts as often as it is met; a slice's spare places count too). A statement '..UptoSaid' is the law's where the arguments, and the package variables that the reading takes, are together of bulk at most 1048576: NARROWER than '..Said'. Prove '..Said' where nothing that the law and all that it calls make is longer than what came in: it says more and counts as full. Else prove '..UptoSaid'. A law counts once. -/
mutual
def uptoBulk {H : Type} : DataW H → Nat
  | .lit (.string bytes) => bytes.length + 1
  | .lit _ => 1
  | .nil => 1
  | .ptr d => uptoBulk d + 1
  | .slice elems spare => uptoBulkAll elems + uptoBulkAll spare + 1
  | .agg parts => uptoBulkAll parts + 1
  | .iface _ d => uptoBulk d + 1
  | .map entries => uptoBulkEntries entries + 1
  | .held _ => 1
def uptoBulkAll {H : Type} : List (DataW H) → Nat
  | [] => 0
  | d :: r => uptoBulk d + uptoBulkAll r
def uptoBulkEntries {H : Type} : List (Lit × DataW H) → Nat
  | [] => 0
  | x :: r => uptoBulkEntry x + uptoBulkEntries r
def uptoBulkEntry {H : Type} : Lit × DataW H → Nat
  | (.string bytes, d) => bytes.length + uptoBulk d + 1
  | (_, d) => uptoBulk d + 1
 end
def uptoSmall : (H : Type) → List (DataW H) → Bool := fun _ ds => decide (uptoBulkAll ds ≤ 1048576)
def OpenSpec.upto (s : _root_.Go.ChangeSpec) : _root_.Go.OpenSpec := { _root_.Go.OpenSpec.ofChange s with cond := some uptoSmall }

/-- 'laws.FnExactIsPrefixOf', WHERE WHAT IT READS IS OF BULK AT MOST 1048576: true; the input reads as it did. -/
def fnExactIsPrefixOfUptoRow : OpenClaim := { program := "ytnfmhhhnjfpijaa", sum := "9b0e80679b1ba8397a901057931ea1e699560f1fb456c6f7fdd05af6db02252a", func := "loop.example/g01633/laws.FnExactIsPrefixOf", spec := "fnExactIsPrefixOf", apart := false, narrowed := true }
def FnExactIsPrefixOfUptoSaid : Prop := fnExactIsPrefixOfUptoRow.holds Try.pinned (OpenSpec.upto fnExactIsPrefixOfSpec)

/-- 'laws.FnExactErrorName', WHERE WHAT IT READS IS OF BULK AT MOST 1048576: true; the input reads as it did. -/
def fnExactErrorNameUptoRow : OpenClaim := { program := "ytnfmhhhnjfpijaa", sum := "9b0e80679b1ba8397a901057931ea1e699560f1fb456c6f7fdd05af6db02252a", func := "loop.example/g01633/laws.FnExactErrorName", spec := "fnExactErrorName", apart := false, narrowed := true }
def FnExactErrorNameUptoSaid : Prop := fnExactErrorNameUptoRow.holds Try.pinned (OpenSpec.upto fnExactErrorNameSpec)

/-- 'laws.FnExactIsRising', WHERE WHAT IT READS IS OF BULK AT MOST 1048576: true; the input reads as it did. -/
def fnExactIsRisingUptoRow : OpenClaim := { program := "ytnfmhhhnjfpijaa", sum := "9b0e80679b1ba8397a901057931ea1e699560f1fb456c6f7fdd05af6db02252a", func := "loop.example/g01633/laws.FnExactIsRising", spec := "fnExactIsRising", apart := false, narrowed := true }
def FnExactIsRisingUptoSaid : Prop := fnExactIsRisingUptoRow.holds Try.pinned (OpenSpec.upto fnExactIsRisingSpec)

/-- 'laws.FnExactFirstDifference', WHERE WHAT IT READS IS OF BULK AT MOST 1048576: true; the input reads as it did. -/
def fnExactFirstDifferenceUptoRow : OpenClaim := { program := "ytnfmhhhnjfpijaa", sum := "9b0e80679b1ba8397a901057931ea1e699560f1fb456c6f7fdd05af6db02252a", func := "loop.example/g01633/laws.FnExactFirstDifference", spec := "fnExactFirstDifference", apart := false, narrowed := true }
def FnExactFirstDifferenceUptoSaid : Prop := fnExactFirstDifferenceUptoRow.holds Try.pinned (OpenSpec.upto fnExactFirstDifferenceSpec)

/-- 'laws.FnExactOutputDigest', WHERE WHAT IT READS IS OF BULK AT MOST 1048576: true; the input reads as it did. -/
def fnExactOutputDigestUptoRow : OpenClaim := { program := "ytnfmhhhnjfpijaa", sum := "9b0e80679b1ba8397a901057931ea1e699560f1fb456c6f7fdd05af6db02252a", func := "loop.example/g01633/laws.FnExactOutputDigest", spec := "fnExactOutputDigest", apart := false, narrowed := true }
def FnExactOutputDigestUptoSaid : Prop := fnExactOutputDigestUptoRow.holds Try.pinned (OpenSpec.upto fnExactOutputDigestSpec)

/-- 'laws.FnExactSpreadOf', WHERE WHAT IT READS IS OF BULK AT MOST 1048576: true; the input reads as it did. -/
def fnExactSpreadOfUptoRow : OpenClaim := { program := "ytnfmhhhnjfpijaa", sum := "9b0e80679b1ba8397a901057931ea1e699560f1fb456c6f7fdd05af6db02252a", func := "loop.example/g01633/laws.FnExactSpreadOf", spec := "fnExactSpreadOf", apart := false, narrowed := true }
def FnExactSpreadOfUptoSaid : Prop := fnExactSpreadOfUptoRow.holds Try.pinned (OpenSpec.upto fnExactSpreadOfSpec)

end Rows
end Go.Proofs.Ytnfmhhhnjfpijaa

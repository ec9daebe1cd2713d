/-
  No cell of these rows narrows 'for every input' (looked for: loops, veiled, ifaces, maps, wideKeys, modest, calm, conditions, laid).
  DERIVED. THE GIVEN ROWS OF THIS SEAT. 4 by the template 'for every input the law returns true; each argument reads behind the call as it read before'; 0 by the template 'total and deterministic' (their statements: YtckmkhiiobonmaaTotals.lean).
  GIVEN WITH THE SEED: the statements are not yours to turn. If you find one false, say at which input.
  Laid BY PROGRAM, IN A SANDBOX (cutbox-rows.mjs): the forced cells as the released guide's own fill.sh prints them over the translation c6be2eb2c7d128ba… (all of the seat's roots in one cut). By AI agents, Wed Nov 11 2026. No macro, syntax, notation, axiom, sorry.
-/
import Derived.Test.YtckmkhiiobonmaaChecked
import GoSem.Claim
import GoSem.ClaimJoined
import GoSem.ClaimMapViews
import Derived.JoinedTies
import Derived.KernelRfl
namespace Go.Proofs.Ytckmkhiiobonmaa
/- THE CELL 'sum', in the pinned program and in every row, IS THE sha256 OF THE DUMP (.gsa) THAT YtckmkhiiobonmaaProg.lean LOADS. Nothing in Lean hashes anything: it is a label: what it is worth is what the hold of that sum in a sandbox is worth. -/
noncomputable def Try.pinned : Pinned := { name := "ytckmkhiiobonmaa", sum := "c6be2eb2c7d128ba92cca00cc35f66ecb097c562b3daf9bdfb72b59149c8cfd1", checked := Try.checked }
namespace Rows
def none {H : Type} : Left H := { results := [], args := [] }

/-- 'laws.FnExactIsComplete': WHATEVER THE INPUT: true; the input reads as it did. -/
def fnExactIsCompleteSpec : ChangeSpec := { name := "fnExactIsComplete", fn := fun _ => fun
  | [d] => { results := [.lit (.bool true)], args := [d] }
  | _ => none }
def fnExactIsCompleteRow : OpenClaim := { program := "ytckmkhiiobonmaa", sum := "c6be2eb2c7d128ba92cca00cc35f66ecb097c562b3daf9bdfb72b59149c8cfd1", func := "loop.example/g01633/laws.FnExactIsComplete", spec := "fnExactIsComplete", apart := false }
def FnExactIsCompleteSaid : Prop := fnExactIsCompleteRow.holds Try.pinned (OpenSpec.ofChange fnExactIsCompleteSpec)

/-- ITS FALSE NEIGHBOUR: 'it returns false'. Refute it at one input. -/
def fnExactIsCompleteWrong : ChangeSpec := { name := "fnExactIsComplete", fn := fun _ => fun
  | [d] => { results := [.lit (.bool false)], args := [d] }
  | _ => none }
def FnExactIsCompleteWrongFalsely : Prop := fnExactIsCompleteRow.holds Try.pinned (OpenSpec.ofChange fnExactIsCompleteWrong)

/-- 'laws.FnExactLackingIn': WHATEVER THE INPUT: true; the input reads as it did. -/
def fnExactLackingInSpec : ChangeSpec := { name := "fnExactLackingIn", fn := fun _ => fun
  | [d] => { results := [.lit (.bool true)], args := [d] }
  | _ => none }
def fnExactLackingInRow : OpenClaim := { program := "ytckmkhiiobonmaa", sum := "c6be2eb2c7d128ba92cca00cc35f66ecb097c562b3daf9bdfb72b59149c8cfd1", func := "loop.example/g01633/laws.FnExactLackingIn", spec := "fnExactLackingIn", apart := false }
def FnExactLackingInSaid : Prop := fnExactLackingInRow.holds Try.pinned (OpenSpec.ofChange fnExactLackingInSpec)

/-- ITS FALSE NEIGHBOUR: 'it returns false'. Refute it at one input. -/
def fnExactLackingInWrong : ChangeSpec := { name := "fnExactLackingIn", fn := fun _ => fun
  | [d] => { results := [.lit (.bool false)], args := [d] }
  | _ => none }
def FnExactLackingInWrongFalsely : Prop := fnExactLackingInRow.holds Try.pinned (OpenSpec.ofChange fnExactLackingInWrong)

/-- 'laws.FnExactFirstUnfaithful': WHATEVER THE INPUT: true; the input reads as it did. -/
def fnExactFirstUnfaithfulSpec : ChangeSpec := { name := "fnExactFirstUnfaithful", fn := fun _ => fun
  | [d] => { results := [.lit (.bool true)], args := [d] }
  | _ => none }
def fnExactFirstUnfaithfulRow : OpenClaim := { program := "ytckmkhiiobonmaa", sum := "c6be2eb2c7d128ba92cca00cc35f66ecb097c562b3daf9bdfb72b59149c8cfd1", func := "loop.example/g01633/laws.FnExactFirstUnfaithful", spec := "fnExactFirstUnfaithful", apart := false }
def FnExactFirstUnfaithfulSaid : Prop := fnExactFirstUnfaithfulRow.holds Try.pinned (OpenSpec.ofChange fnExactFirstUnfaithfulSpec)

/-- ITS FALSE NEIGHBOUR: 'it returns false'. Refute it at one input. -/
def fnExactFirstUnfaithfulWrong : ChangeSpec := { name := "fnExactFirstUnfaithful", fn := fun _ => fun
  | [d] => { results := [.lit (.bool false)], args := [d] }
  | _ => none }
def FnExactFirstUnfaithfulWrongFalsely : Prop := fnExactFirstUnfaithfulRow.holds Try.pinned (OpenSpec.ofChange fnExactFirstUnfaithfulWrong)

/-- 'laws.FnExactIsFaithful': WHATEVER THE INPUT: true; the input reads as it did. -/
def fnExactIsFaithfulSpec : ChangeSpec := { name := "fnExactIsFaithful", fn := fun _ => fun
  | [d] => { results := [.lit (.bool true)], args := [d] }
  | _ => none }
def fnExactIsFaithfulRow : OpenClaim := { program := "ytckmkhiiobonmaa", sum := "c6be2eb2c7d128ba92cca00cc35f66ecb097c562b3daf9bdfb72b59149c8cfd1", func := "loop.example/g01633/laws.FnExactIsFaithful", spec := "fnExactIsFaithful", apart := false }
def FnExactIsFaithfulSaid : Prop := fnExactIsFaithfulRow.holds Try.pinned (OpenSpec.ofChange fnExactIsFaithfulSpec)

/-- ITS FALSE NEIGHBOUR: 'it returns false'. Refute it at one input. -/
def fnExactIsFaithfulWrong : ChangeSpec := { name := "fnExactIsFaithful", fn := fun _ => fun
  | [d] => { results := [.lit (.bool false)], args := [d] }
  | _ => none }
def FnExactIsFaithfulWrongFalsely : Prop := fnExactIsFaithfulRow.holds Try.pinned (OpenSpec.ofChange fnExactIsFaithfulWrong)

/- THE SECOND FORM. 'bulk': how many values and letters a reading holds, each counted each time it is reached (what is shared counts as often as it is met; a slice's spare places count too). A statement '..UptoSaid' is the law's where the arguments, and the package variables that the reading takes, are together of bulk at most 1048576: NARROWER than '..Said'. Prove '..Said' where nothing that the law and all that it calls make is longer than what came in: it says more and counts as full. Else prove '..UptoSaid'. A law counts once. -/
mutual
def uptoBulk {H : Type} : DataW H → Nat
  | .lit (.string bytes) => bytes.length + 1
  | .lit _ => 1
  | .nil => 1
  | .ptr d => uptoBulk d + 1
  | .slice elems spare => uptoBulkAll elems + uptoBulkAll spare + 1
  | .agg parts => uptoBulkAll parts + 1
  | .iface _ d => uptoBulk d + 1
  | .map entries => uptoBulkEntries entries + 1
  | .held _ => 1
def uptoBulkAll {H : Type} : List (DataW H) → Nat
  | [] => 0
  | d :: r => uptoBulk d + uptoBulkAll r
def uptoBulkEntries {H : Type} : List (Lit × DataW H) → Nat
  | [] => 0
  | x :: r => uptoBulkEntry x + uptoBulkEntries r
def uptoBulkEntry {H : Type} : Lit × DataW H → Nat
  | (.string bytes, d) => bytes.length + uptoBulk d + 1
  | (_, d) => uptoBulk d + 1
 end
def uptoSmall : (H : Type) → List (DataW H) → Bool := fun _ ds => decide (uptoBulkAll ds ≤ 1048576)
def OpenSpec.upto (s : _root_.Go.ChangeSpec) : _root_.Go.OpenSpec := { _root_.Go.OpenSpec.ofChange s with cond := some uptoSmall }

/-- 'laws.FnExactIsComplete', WHERE WHAT IT READS IS OF BULK AT MOST 1048576: true; the input reads as it did. -/
def fnExactIsCompleteUptoRow : OpenClaim := { program := "ytckmkhiiobonmaa", sum := "c6be2eb2c7d128ba92cca00cc35f66ecb097c562b3daf9bdfb72b59149c8cfd1", func := "loop.example/g01633/laws.FnExactIsComplete", spec := "fnExactIsComplete", apart := false, narrowed := true }
def FnExactIsCompleteUptoSaid : Prop := fnExactIsCompleteUptoRow.holds Try.pinned (OpenSpec.upto fnExactIsCompleteSpec)

/-- 'laws.FnExactLackingIn', WHERE WHAT IT READS IS OF BULK AT MOST 1048576: true; the input reads as it did. -/
def fnExactLackingInUptoRow : OpenClaim := { program := "ytckmkhiiobonmaa", sum := "c6be2eb2c7d128ba92cca00cc35f66ecb097c562b3daf9bdfb72b59149c8cfd1", func := "loop.example/g01633/laws.FnExactLackingIn", spec := "fnExactLackingIn", apart := false, narrowed := true }
def FnExactLackingInUptoSaid : Prop := fnExactLackingInUptoRow.holds Try.pinned (OpenSpec.upto fnExactLackingInSpec)

/-- 'laws.FnExactFirstUnfaithful', WHERE WHAT IT READS IS OF BULK AT MOST 1048576: true; the input reads as it did. -/
def fnExactFirstUnfaithfulUptoRow : OpenClaim := { program := "ytckmkhiiobonmaa", sum := "c6be2eb2c7d128ba92cca00cc35f66ecb097c562b3daf9bdfb72b59149c8cfd1", func := "loop.example/g01633/laws.FnExactFirstUnfaithful", spec := "fnExactFirstUnfaithful", apart := false, narrowed := true }
def FnExactFirstUnfaithfulUptoSaid : Prop := fnExactFirstUnfaithfulUptoRow.holds Try.pinned (OpenSpec.upto fnExactFirstUnfaithfulSpec)

/-- 'laws.FnExactIsFaithful', WHERE WHAT IT READS IS OF BULK AT MOST 1048576: true; the input reads as it did. -/
def fnExactIsFaithfulUptoRow : OpenClaim := { program := "ytckmkhiiobonmaa", sum := "c6be2eb2c7d128ba92cca00cc35f66ecb097c562b3daf9bdfb72b59149c8cfd1", func := "loop.example/g01633/laws.FnExactIsFaithful", spec := "fnExactIsFaithful", apart := false, narrowed := true }
def FnExactIsFaithfulUptoSaid : Prop := fnExactIsFaithfulUptoRow.holds Try.pinned (OpenSpec.upto fnExactIsFaithfulSpec)

end Rows
end Go.Proofs.Ytckmkhiiobonmaa

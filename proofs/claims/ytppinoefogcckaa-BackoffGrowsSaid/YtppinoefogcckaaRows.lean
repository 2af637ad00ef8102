/-
  No cell of these rows narrows 'for every input' (looked for: loops, veiled, ifaces, maps, wideKeys, modest, calm, conditions, laid).
  DERIVED. THE GIVEN ROWS OF THIS SEAT. 5 by the template 'for every input the law returns true; each argument reads behind the call as it read before'; 0 by the template 'total and deterministic' (their statements: YtppinoefogcckaaTotals.lean).
  GIVEN WITH THE SEED: the statements are not yours to turn. If you find one false, say at which input.
  Laid BY PROGRAM, IN A SANDBOX (cutbox-rows.mjs): the forced cells as the released guide's own fill.sh prints them over the translation 586c4b15d837e69e… (all of the seat's roots in one cut). By AI agents, Wed Nov 11 2026. No macro, syntax, notation, axiom, sorry.
-/
import Derived.Test.YtppinoefogcckaaChecked
import GoSem.Claim
import GoSem.ClaimJoined
import GoSem.ClaimMapViews
import Derived.JoinedTies
import Derived.KernelRfl
namespace Go.Proofs.Ytppinoefogcckaa
/- THE CELL 'sum', in the pinned program and in every row, IS THE sha256 OF THE DUMP (.gsa) THAT YtppinoefogcckaaProg.lean LOADS. Nothing in Lean hashes anything: it is a label: what it is worth is what the hold of that sum in a sandbox is worth. -/
noncomputable def Try.pinned : Pinned := { name := "ytppinoefogcckaa", sum := "586c4b15d837e69e1a94845bd657087791d40fac36729d9154866f6770c1fabb", checked := Try.checked }
namespace Rows
def none {H : Type} : Left H := { results := [], args := [] }

/-- 'orchestratorlaw30.BackoffDelays': WHATEVER THE INPUT: true; the input reads as it did. -/
def backoffDelaysSpec : ChangeSpec := { name := "backoffDelays", fn := fun _ => fun
  | [d1, d2, d3] => { results := [.lit (.bool true)], args := [d1, d2, d3] }
  | _ => none }
def backoffDelaysRow : OpenClaim := { program := "ytppinoefogcckaa", sum := "586c4b15d837e69e1a94845bd657087791d40fac36729d9154866f6770c1fabb", func := "orchestrator/orchestratorlaw30.BackoffDelays", spec := "backoffDelays", apart := false }
def BackoffDelaysSaid : Prop := backoffDelaysRow.holds Try.pinned (OpenSpec.ofChange backoffDelaysSpec)

/-- ITS FALSE NEIGHBOUR: 'it returns false'. Refute it at one input. -/
def backoffDelaysWrong : ChangeSpec := { name := "backoffDelays", fn := fun _ => fun
  | [d1, d2, d3] => { results := [.lit (.bool false)], args := [d1, d2, d3] }
  | _ => none }
def BackoffDelaysWrongFalsely : Prop := backoffDelaysRow.holds Try.pinned (OpenSpec.ofChange backoffDelaysWrong)

/-- 'orchestratorlaw30.BackoffFails': WHATEVER THE INPUT: true; the input reads as it did. -/
def backoffFailsSpec : ChangeSpec := { name := "backoffFails", fn := fun _ => fun
  | [d1, d2, d3, d4] => { results := [.lit (.bool true)], args := [d1, d2, d3, d4] }
  | _ => none }
def backoffFailsRow : OpenClaim := { program := "ytppinoefogcckaa", sum := "586c4b15d837e69e1a94845bd657087791d40fac36729d9154866f6770c1fabb", func := "orchestrator/orchestratorlaw30.BackoffFails", spec := "backoffFails", apart := false }
def BackoffFailsSaid : Prop := backoffFailsRow.holds Try.pinned (OpenSpec.ofChange backoffFailsSpec)

/-- ITS FALSE NEIGHBOUR: 'it returns false'. Refute it at one input. -/
def backoffFailsWrong : ChangeSpec := { name := "backoffFails", fn := fun _ => fun
  | [d1, d2, d3, d4] => { results := [.lit (.bool false)], args := [d1, d2, d3, d4] }
  | _ => none }
def BackoffFailsWrongFalsely : Prop := backoffFailsRow.holds Try.pinned (OpenSpec.ofChange backoffFailsWrong)

/-- 'orchestratorlaw30.BackoffGrows': WHATEVER THE INPUT: true; the input reads as it did. -/
def backoffGrowsSpec : ChangeSpec := { name := "backoffGrows", fn := fun _ => fun
  | [d1, d2, d3, d4] => { results := [.lit (.bool true)], args := [d1, d2, d3, d4] }
  | _ => none }
def backoffGrowsRow : OpenClaim := { program := "ytppinoefogcckaa", sum := "586c4b15d837e69e1a94845bd657087791d40fac36729d9154866f6770c1fabb", func := "orchestrator/orchestratorlaw30.BackoffGrows", spec := "backoffGrows", apart := false }
def BackoffGrowsSaid : Prop := backoffGrowsRow.holds Try.pinned (OpenSpec.ofChange backoffGrowsSpec)

/-- ITS FALSE NEIGHBOUR: 'it returns false'. Refute it at one input. -/
def backoffGrowsWrong : ChangeSpec := { name := "backoffGrows", fn := fun _ => fun
  | [d1, d2, d3, d4] => { results := [.lit (.bool false)], args := [d1, d2, d3, d4] }
  | _ => none }
def BackoffGrowsWrongFalsely : Prop := backoffGrowsRow.holds Try.pinned (OpenSpec.ofChange backoffGrowsWrong)

/-- 'orchestratorlaw30.BackoffDoubles': WHATEVER THE INPUT: true; the input reads as it did. -/
def backoffDoublesSpec : ChangeSpec := { name := "backoffDoubles", fn := fun _ => fun
  | [d1, d2, d3] => { results := [.lit (.bool true)], args := [d1, d2, d3] }
  | _ => none }
def backoffDoublesRow : OpenClaim := { program := "ytppinoefogcckaa", sum := "586c4b15d837e69e1a94845bd657087791d40fac36729d9154866f6770c1fabb", func := "orchestrator/orchestratorlaw30.BackoffDoubles", spec := "backoffDoubles", apart := false }
def BackoffDoublesSaid : Prop := backoffDoublesRow.holds Try.pinned (OpenSpec.ofChange backoffDoublesSpec)

/-- ITS FALSE NEIGHBOUR: 'it returns false'. Refute it at one input. -/
def backoffDoublesWrong : ChangeSpec := { name := "backoffDoubles", fn := fun _ => fun
  | [d1, d2, d3] => { results := [.lit (.bool false)], args := [d1, d2, d3] }
  | _ => none }
def BackoffDoublesWrongFalsely : Prop := backoffDoublesRow.holds Try.pinned (OpenSpec.ofChange backoffDoublesWrong)

/-- 'orchestratorlaw30.BackoffWaits': WHATEVER THE INPUT: true; the input reads as it did. -/
def backoffWaitsSpec : ChangeSpec := { name := "backoffWaits", fn := fun _ => fun
  | [d1, d2, d3, d4, d5] => { results := [.lit (.bool true)], args := [d1, d2, d3, d4, d5] }
  | _ => none }
def backoffWaitsRow : OpenClaim := { program := "ytppinoefogcckaa", sum := "586c4b15d837e69e1a94845bd657087791d40fac36729d9154866f6770c1fabb", func := "orchestrator/orchestratorlaw30.BackoffWaits", spec := "backoffWaits", apart := false }
def BackoffWaitsSaid : Prop := backoffWaitsRow.holds Try.pinned (OpenSpec.ofChange backoffWaitsSpec)

/-- ITS FALSE NEIGHBOUR: 'it returns false'. Refute it at one input. -/
def backoffWaitsWrong : ChangeSpec := { name := "backoffWaits", fn := fun _ => fun
  | [d1, d2, d3, d4, d5] => { results := [.lit (.bool false)], args := [d1, d2, d3, d4, d5] }
  | _ => none }
def BackoffWaitsWrongFalsely : Prop := backoffWaitsRow.holds Try.pinned (OpenSpec.ofChange backoffWaitsWrong)

/- THE SECOND FORM. 'bulk': how many values and letters a reading holds, each counted each time it is reached (what is shared counts as often as it is met; a slice's spare places count too). A statement '..UptoSaid' is the law's where the arguments, and the package variables that the reading takes, are together of bulk at most 1048576: NARROWER than '..Said'. Prove '..Said' where nothing that the law and all that it calls make is longer than what came in: it says more and counts as full. Else prove '..UptoSaid'. A law counts once. -/
mutual
def uptoBulk {H : Type} : DataW H → Nat
  | .lit (.string bytes) => bytes.length + 1
  | .lit _ => 1
  | .nil => 1
  | .ptr d => uptoBulk d + 1
  | .slice elems spare => uptoBulkAll elems + uptoBulkAll spare + 1
  | .agg parts => uptoBulkAll parts + 1
  | .iface _ d => uptoBulk d + 1
  | .map entries => uptoBulkEntries entries + 1
  | .held _ => 1
def uptoBulkAll {H : Type} : List (DataW H) → Nat
  | [] => 0
  | d :: r => uptoBulk d + uptoBulkAll r
def uptoBulkEntries {H : Type} : List (Lit × DataW H) → Nat
  | [] => 0
  | x :: r => uptoBulkEntry x + uptoBulkEntries r
def uptoBulkEntry {H : Type} : Lit × DataW H → Nat
  | (.string bytes, d) => bytes.length + uptoBulk d + 1
  | (_, d) => uptoBulk d + 1
 end
def uptoSmall : (H : Type) → List (DataW H) → Bool := fun _ ds => decide (uptoBulkAll ds ≤ 1048576)
def OpenSpec.upto (s : _root_.Go.ChangeSpec) : _root_.Go.OpenSpec := { _root_.Go.OpenSpec.ofChange s with cond := some uptoSmall }

/-- 'orchestratorlaw30.BackoffDelays', WHERE WHAT IT READS IS OF BULK AT MOST 1048576: true; the input reads as it did. -/
def backoffDelaysUptoRow : OpenClaim := { program := "ytppinoefogcckaa", sum := "586c4b15d837e69e1a94845bd657087791d40fac36729d9154866f6770c1fabb", func := "orchestrator/orchestratorlaw30.BackoffDelays", spec := "backoffDelays", apart := false, narrowed := true }
def BackoffDelaysUptoSaid : Prop := backoffDelaysUptoRow.holds Try.pinned (OpenSpec.upto backoffDelaysSpec)

/-- 'orchestratorlaw30.BackoffFails', WHERE WHAT IT READS IS OF BULK AT MOST 1048576: true; the input reads as it did. -/
def backoffFailsUptoRow : OpenClaim := { program := "ytppinoefogcckaa", sum := "586c4b15d837e69e1a94845bd657087791d40fac36729d9154866f6770c1fabb", func := "orchestrator/orchestratorlaw30.BackoffFails", spec := "backoffFails", apart := false, narrowed := true }
def BackoffFailsUptoSaid : Prop := backoffFailsUptoRow.holds Try.pinned (OpenSpec.upto backoffFailsSpec)

/-- 'orchestratorlaw30.BackoffGrows', WHERE WHAT IT READS IS OF BULK AT MOST 1048576: true; the input reads as it did. -/
def backoffGrowsUptoRow : OpenClaim := { program := "ytppinoefogcckaa", sum := "586c4b15d837e69e1a94845bd657087791d40fac36729d9154866f6770c1fabb", func := "orchestrator/orchestratorlaw30.BackoffGrows", spec := "backoffGrows", apart := false, narrowed := true }
def BackoffGrowsUptoSaid : Prop := backoffGrowsUptoRow.holds Try.pinned (OpenSpec.upto backoffGrowsSpec)

/-- 'orchestratorlaw30.BackoffDoubles', WHERE WHAT IT READS IS OF BULK AT MOST 1048576: true; the input reads as it did. -/
def backoffDoublesUptoRow : OpenClaim := { program := "ytppinoefogcckaa", sum := "586c4b15d837e69e1a94845bd657087791d40fac36729d9154866f6770c1fabb", func := "orchestrator/orchestratorlaw30.BackoffDoubles", spec := "backoffDoubles", apart := false, narrowed := true }
def BackoffDoublesUptoSaid : Prop := backoffDoublesUptoRow.holds Try.pinned (OpenSpec.upto backoffDoublesSpec)

/-- 'orchestratorlaw30.BackoffWaits', WHERE WHAT IT READS IS OF BULK AT MOST 1048576: true; the input reads as it did. -/
def backoffWaitsUptoRow : OpenClaim := { program := "ytppinoefogcckaa", sum := "586c4b15d837e69e1a94845bd657087791d40fac36729d9154866f6770c1fabb", func := "orchestrator/orchestratorlaw30.BackoffWaits", spec := "backoffWaits", apart := false, narrowed := true }
def BackoffWaitsUptoSaid : Prop := backoffWaitsUptoRow.holds Try.pinned (OpenSpec.upto backoffWaitsSpec)

end Rows
end Go.Proofs.Ytppinoefogcckaa

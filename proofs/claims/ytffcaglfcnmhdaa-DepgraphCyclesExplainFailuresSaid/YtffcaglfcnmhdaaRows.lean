/-
  No cell of these rows narrows 'for every input' (looked for: loops, veiled, ifaces, maps, wideKeys, modest, calm, conditions, laid).
  DERIVED. THE GIVEN ROWS OF THIS SEAT. 6 by the template 'for every input the law returns true; each argument reads behind the call as it read before'; 0 by the template 'total and deterministic' (their statements: YtffcaglfcnmhdaaTotals.lean).
  GIVEN WITH THE SEED: the statements are not yours to turn. If you find one false, say at which input.
  Laid BY PROGRAM, IN A SANDBOX (cutbox-rows.mjs): the forced cells as the released guide's own fill.sh prints them over the translation dbe5f9b3803b4cb6… (all of the seat's roots in one cut). By AI agents, Wed Nov 11 2026. No macro, syntax, notation, axiom, sorry.
-/
import Derived.Test.YtffcaglfcnmhdaaChecked
import GoSem.Claim
import GoSem.ClaimJoined
import GoSem.ClaimMapViews
import Derived.JoinedTies
import Derived.KernelRfl
namespace Go.Proofs.Ytffcaglfcnmhdaa
/- THE CELL 'sum', in the pinned program and in every row, IS THE sha256 OF THE DUMP (.gsa) THAT YtffcaglfcnmhdaaProg.lean LOADS. Nothing in Lean hashes anything: it is a label: what it is worth is what the hold of that sum in a sandbox is worth. -/
noncomputable def Try.pinned : Pinned := { name := "ytffcaglfcnmhdaa", sum := "dbe5f9b3803b4cb6a02b5d9ac4ffe52e4d03a02638727f624473e6c17751e782", checked := Try.checked }
namespace Rows
def none {H : Type} : Left H := { results := [], args := [] }

/-- 'changeforgelaw6.DepgraphMatchesSpec': WHATEVER THE INPUT: true; the input reads as it did. -/
def depgraphMatchesSpecSpec : ChangeSpec := { name := "depgraphMatchesSpec", fn := fun _ => fun
  | [d1, d2] => { results := [.lit (.bool true)], args := [d1, d2] }
  | _ => none }
def depgraphMatchesSpecRow : OpenClaim := { program := "ytffcaglfcnmhdaa", sum := "dbe5f9b3803b4cb6a02b5d9ac4ffe52e4d03a02638727f624473e6c17751e782", func := "changeforge/changeforgelaw6.DepgraphMatchesSpec", spec := "depgraphMatchesSpec", unfollowed := true, recurses := true, apart := false }
def DepgraphMatchesSpecSaid : Prop := depgraphMatchesSpecRow.holds Try.pinned (OpenSpec.ofChange depgraphMatchesSpecSpec)

/-- ITS FALSE NEIGHBOUR: 'it returns false'. Refute it at one input. -/
def depgraphMatchesSpecWrong : ChangeSpec := { name := "depgraphMatchesSpec", fn := fun _ => fun
  | [d1, d2] => { results := [.lit (.bool false)], args := [d1, d2] }
  | _ => none }
def DepgraphMatchesSpecWrongFalsely : Prop := depgraphMatchesSpecRow.holds Try.pinned (OpenSpec.ofChange depgraphMatchesSpecWrong)

/-- 'changeforgelaw6.DepgraphOrderMatchesSpec': WHATEVER THE INPUT: true; the input reads as it did. -/
def depgraphOrderMatchesSpecSpec : ChangeSpec := { name := "depgraphOrderMatchesSpec", fn := fun _ => fun
  | [d] => { results := [.lit (.bool true)], args := [d] }
  | _ => none }
def depgraphOrderMatchesSpecRow : OpenClaim := { program := "ytffcaglfcnmhdaa", sum := "dbe5f9b3803b4cb6a02b5d9ac4ffe52e4d03a02638727f624473e6c17751e782", func := "changeforge/changeforgelaw6.DepgraphOrderMatchesSpec", spec := "depgraphOrderMatchesSpec", unfollowed := true, recurses := true, apart := false }
def DepgraphOrderMatchesSpecSaid : Prop := depgraphOrderMatchesSpecRow.holds Try.pinned (OpenSpec.ofChange depgraphOrderMatchesSpecSpec)

/-- ITS FALSE NEIGHBOUR: 'it returns false'. Refute it at one input. -/
def depgraphOrderMatchesSpecWrong : ChangeSpec := { name := "depgraphOrderMatchesSpec", fn := fun _ => fun
  | [d] => { results := [.lit (.bool false)], args := [d] }
  | _ => none }
def DepgraphOrderMatchesSpecWrongFalsely : Prop := depgraphOrderMatchesSpecRow.holds Try.pinned (OpenSpec.ofChange depgraphOrderMatchesSpecWrong)

/-- 'changeforgelaw6.DepgraphOrdersRespectDependencies': WHATEVER THE INPUT: true; the input reads as it did. -/
def depgraphOrdersRespectDependenciesSpec : ChangeSpec := { name := "depgraphOrdersRespectDependencies", fn := fun _ => fun
  | [d] => { results := [.lit (.bool true)], args := [d] }
  | _ => none }
def depgraphOrdersRespectDependenciesRow : OpenClaim := { program := "ytffcaglfcnmhdaa", sum := "dbe5f9b3803b4cb6a02b5d9ac4ffe52e4d03a02638727f624473e6c17751e782", func := "changeforge/changeforgelaw6.DepgraphOrdersRespectDependencies", spec := "depgraphOrdersRespectDependencies", unfollowed := true, recurses := true, apart := false }
def DepgraphOrdersRespectDependenciesSaid : Prop := depgraphOrdersRespectDependenciesRow.holds Try.pinned (OpenSpec.ofChange depgraphOrdersRespectDependenciesSpec)

/-- ITS FALSE NEIGHBOUR: 'it returns false'. Refute it at one input. -/
def depgraphOrdersRespectDependenciesWrong : ChangeSpec := { name := "depgraphOrdersRespectDependencies", fn := fun _ => fun
  | [d] => { results := [.lit (.bool false)], args := [d] }
  | _ => none }
def DepgraphOrdersRespectDependenciesWrongFalsely : Prop := depgraphOrdersRespectDependenciesRow.holds Try.pinned (OpenSpec.ofChange depgraphOrdersRespectDependenciesWrong)

/-- 'changeforgelaw6.DepgraphCyclesExplainFailures': WHATEVER THE INPUT: true; the input reads as it did. -/
def depgraphCyclesExplainFailuresSpec : ChangeSpec := { name := "depgraphCyclesExplainFailures", fn := fun _ => fun
  | [d] => { results := [.lit (.bool true)], args := [d] }
  | _ => none }
def depgraphCyclesExplainFailuresRow : OpenClaim := { program := "ytffcaglfcnmhdaa", sum := "dbe5f9b3803b4cb6a02b5d9ac4ffe52e4d03a02638727f624473e6c17751e782", func := "changeforge/changeforgelaw6.DepgraphCyclesExplainFailures", spec := "depgraphCyclesExplainFailures", unfollowed := true, recurses := true, apart := false }
def DepgraphCyclesExplainFailuresSaid : Prop := depgraphCyclesExplainFailuresRow.holds Try.pinned (OpenSpec.ofChange depgraphCyclesExplainFailuresSpec)

/-- ITS FALSE NEIGHBOUR: 'it returns false'. Refute it at one input. -/
def depgraphCyclesExplainFailuresWrong : ChangeSpec := { name := "depgraphCyclesExplainFailures", fn := fun _ => fun
  | [d] => { results := [.lit (.bool false)], args := [d] }
  | _ => none }
def DepgraphCyclesExplainFailuresWrongFalsely : Prop := depgraphCyclesExplainFailuresRow.holds Try.pinned (OpenSpec.ofChange depgraphCyclesExplainFailuresWrong)

/-- 'changeforgelaw6.DepgraphAffectedIsAClosure': WHATEVER THE INPUT: true; the input reads as it did. -/
def depgraphAffectedIsAClosureSpec : ChangeSpec := { name := "depgraphAffectedIsAClosure", fn := fun _ => fun
  | [d1, d2, d3] => { results := [.lit (.bool true)], args := [d1, d2, d3] }
  | _ => none }
def depgraphAffectedIsAClosureRow : OpenClaim := { program := "ytffcaglfcnmhdaa", sum := "dbe5f9b3803b4cb6a02b5d9ac4ffe52e4d03a02638727f624473e6c17751e782", func := "changeforge/changeforgelaw6.DepgraphAffectedIsAClosure", spec := "depgraphAffectedIsAClosure", unfollowed := true, recurses := true, apart := false }
def DepgraphAffectedIsAClosureSaid : Prop := depgraphAffectedIsAClosureRow.holds Try.pinned (OpenSpec.ofChange depgraphAffectedIsAClosureSpec)

/-- ITS FALSE NEIGHBOUR: 'it returns false'. Refute it at one input. -/
def depgraphAffectedIsAClosureWrong : ChangeSpec := { name := "depgraphAffectedIsAClosure", fn := fun _ => fun
  | [d1, d2, d3] => { results := [.lit (.bool false)], args := [d1, d2, d3] }
  | _ => none }
def DepgraphAffectedIsAClosureWrongFalsely : Prop := depgraphAffectedIsAClosureRow.holds Try.pinned (OpenSpec.ofChange depgraphAffectedIsAClosureWrong)

/-- 'changeforgelaw6.DepgraphAffectedNodesDepend': WHATEVER THE INPUT: true; the input reads as it did. -/
def depgraphAffectedNodesDependSpec : ChangeSpec := { name := "depgraphAffectedNodesDepend", fn := fun _ => fun
  | [d1, d2] => { results := [.lit (.bool true)], args := [d1, d2] }
  | _ => none }
def depgraphAffectedNodesDependRow : OpenClaim := { program := "ytffcaglfcnmhdaa", sum := "dbe5f9b3803b4cb6a02b5d9ac4ffe52e4d03a02638727f624473e6c17751e782", func := "changeforge/changeforgelaw6.DepgraphAffectedNodesDepend", spec := "depgraphAffectedNodesDepend", unfollowed := true, recurses := true, apart := false }
def DepgraphAffectedNodesDependSaid : Prop := depgraphAffectedNodesDependRow.holds Try.pinned (OpenSpec.ofChange depgraphAffectedNodesDependSpec)

/-- ITS FALSE NEIGHBOUR: 'it returns false'. Refute it at one input. -/
def depgraphAffectedNodesDependWrong : ChangeSpec := { name := "depgraphAffectedNodesDepend", fn := fun _ => fun
  | [d1, d2] => { results := [.lit (.bool false)], args := [d1, d2] }
  | _ => none }
def DepgraphAffectedNodesDependWrongFalsely : Prop := depgraphAffectedNodesDependRow.holds Try.pinned (OpenSpec.ofChange depgraphAffectedNodesDependWrong)

/- THE SECOND FORM. 'bulk': how many values and letters a reading holds, each counted each time it is reached (what is shared counts as often as it is met; a slice's spare places count too). A statement '..UptoSaid' is the law's where the arguments, and the package variables that the reading takes, are together of bulk at most 1048576: NARROWER than '..Said'. Prove '..Said' where nothing that the law and all that it calls make is longer than what came in: it says more and counts as full. Else prove '..UptoSaid'. A law counts once. -/
mutual
def uptoBulk {H : Type} : DataW H → Nat
  | .lit (.string bytes) => bytes.length + 1
  | .lit _ => 1
  | .nil => 1
  | .ptr d => uptoBulk d + 1
  | .slice elems spare => uptoBulkAll elems + uptoBulkAll spare + 1
  | .agg parts => uptoBulkAll parts + 1
  | .iface _ d => uptoBulk d + 1
  | .map entries => uptoBulkEntries entries + 1
  | .held _ => 1
def uptoBulkAll {H : Type} : List (DataW H) → Nat
  | [] => 0
  | d :: r => uptoBulk d + uptoBulkAll r
def uptoBulkEntries {H : Type} : List (Lit × DataW H) → Nat
  | [] => 0
  | x :: r => uptoBulkEntry x + uptoBulkEntries r
def uptoBulkEntry {H : Type} : Lit × DataW H → Nat
  | (.string bytes, d) => bytes.length + uptoBulk d + 1
  | (_, d) => uptoBulk d + 1
 end
def uptoSmall : (H : Type) → List (DataW H) → Bool := fun _ ds => decide (uptoBulkAll ds ≤ 1048576)
def OpenSpec.upto (s : _root_.Go.ChangeSpec) : _root_.Go.OpenSpec := { _root_.Go.OpenSpec.ofChange s with cond := some uptoSmall }

/-- 'changeforgelaw6.DepgraphMatchesSpec', WHERE WHAT IT READS IS OF BULK AT MOST 1048576: true; the input reads as it did. -/
def depgraphMatchesSpecUptoRow : OpenClaim := { program := "ytffcaglfcnmhdaa", sum := "dbe5f9b3803b4cb6a02b5d9ac4ffe52e4d03a02638727f624473e6c17751e782", func := "changeforge/changeforgelaw6.DepgraphMatchesSpec", spec := "depgraphMatchesSpec", unfollowed := true, recurses := true, apart := false, narrowed := true }
def DepgraphMatchesSpecUptoSaid : Prop := depgraphMatchesSpecUptoRow.holds Try.pinned (OpenSpec.upto depgraphMatchesSpecSpec)

/-- 'changeforgelaw6.DepgraphOrderMatchesSpec', WHERE WHAT IT READS IS OF BULK AT MOST 1048576: true; the input reads as it did. -/
def depgraphOrderMatchesSpecUptoRow : OpenClaim := { program := "ytffcaglfcnmhdaa", sum := "dbe5f9b3803b4cb6a02b5d9ac4ffe52e4d03a02638727f624473e6c17751e782", func := "changeforge/changeforgelaw6.DepgraphOrderMatchesSpec", spec := "depgraphOrderMatchesSpec", unfollowed := true, recurses := true, apart := false, narrowed := true }
def DepgraphOrderMatchesSpecUptoSaid : Prop := depgraphOrderMatchesSpecUptoRow.holds Try.pinned (OpenSpec.upto depgraphOrderMatchesSpecSpec)

/-- 'changeforgelaw6.DepgraphOrdersRespectDependencies', WHERE WHAT IT READS IS OF BULK AT MOST 1048576: true; the input reads as it did. -/
def depgraphOrdersRespectDependenciesUptoRow : OpenClaim := { program := "ytffcaglfcnmhdaa", sum := "dbe5f9b3803b4cb6a02b5d9ac4ffe52e4d03a02638727f624473e6c17751e782", func := "changeforge/changeforgelaw6.DepgraphOrdersRespectDependencies", spec := "depgraphOrdersRespectDependencies", unfollowed := true, recurses := true, apart := false, narrowed := true }
def DepgraphOrdersRespectDependenciesUptoSaid : Prop := depgraphOrdersRespectDependenciesUptoRow.holds Try.pinned (OpenSpec.upto depgraphOrdersRespectDependenciesSpec)

/-- 'changeforgelaw6.DepgraphCyclesExplainFailures', WHERE WHAT IT READS IS OF BULK AT MOST 1048576: true; the input reads as it did. -/
def depgraphCyclesExplainFailuresUptoRow : OpenClaim := { program := "ytffcaglfcnmhdaa", sum := "dbe5f9b3803b4cb6a02b5d9ac4ffe52e4d03a02638727f624473e6c17751e782", func := "changeforge/changeforgelaw6.DepgraphCyclesExplainFailures", spec := "depgraphCyclesExplainFailures", unfollowed := true, recurses := true, apart := false, narrowed := true }
def DepgraphCyclesExplainFailuresUptoSaid : Prop := depgraphCyclesExplainFailuresUptoRow.holds Try.pinned (OpenSpec.upto depgraphCyclesExplainFailuresSpec)

/-- 'changeforgelaw6.DepgraphAffectedIsAClosure', WHERE WHAT IT READS IS OF BULK AT MOST 1048576: true; the input reads as it did. -/
def depgraphAffectedIsAClosureUptoRow : OpenClaim := { program := "ytffcaglfcnmhdaa", sum := "dbe5f9b3803b4cb6a02b5d9ac4ffe52e4d03a02638727f624473e6c17751e782", func := "changeforge/changeforgelaw6.DepgraphAffectedIsAClosure", spec := "depgraphAffectedIsAClosure", unfollowed := true, recurses := true, apart := false, narrowed := true }
def DepgraphAffectedIsAClosureUptoSaid : Prop := depgraphAffectedIsAClosureUptoRow.holds Try.pinned (OpenSpec.upto depgraphAffectedIsAClosureSpec)

/-- 'changeforgelaw6.DepgraphAffectedNodesDepend', WHERE WHAT IT READS IS OF BULK AT MOST 1048576: true; the input reads as it did. -/
def depgraphAffectedNodesDependUptoRow : OpenClaim := { program := "ytffcaglfcnmhdaa", sum := "dbe5f9b3803b4cb6a02b5d9ac4ffe52e4d03a02638727f624473e6c17751e782", func := "changeforge/changeforgelaw6.DepgraphAffectedNodesDepend", spec := "depgraphAffectedNodesDepend", unfollowed := true, recurses := true, apart := false, narrowed := true }
def DepgraphAffectedNodesDependUptoSaid : Prop := depgraphAffectedNodesDependUptoRow.holds Try.pinned (OpenSpec.upto depgraphAffectedNodesDependSpec)

end Rows
end Go.Proofs.Ytffcaglfcnmhdaa

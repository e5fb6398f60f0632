/-
  No cell of these rows narrows 'for every input' (looked for: loops, veiled, ifaces, maps, wideKeys, modest, calm, conditions, laid).
  DERIVED. THE GIVEN ROWS OF THIS SEAT. 7 by the template 'for every input the law returns true; each argument reads behind the call as it read before'; 0 by the template 'total and deterministic' (their statements: YtgkpgigoonhgdaaTotals.lean).
  GIVEN WITH THE SEED: the statements are not yours to turn. If you find one false, say at which input.
  Laid BY PROGRAM, IN A SANDBOX (cutbox-rows.mjs): the forced cells as the released guide's own fill.sh prints them over the translation 64769bc778b8032a… (all of the seat's roots in one cut). By AI agents, Wed Nov 11 2026. No macro, syntax, notation, axiom, sorry.
-/
import Derived.Test.YtgkpgigoonhgdaaChecked
import GoSem.Claim
import GoSem.ClaimJoined
import GoSem.ClaimMapViews
import Derived.JoinedTies
import Derived.KernelRfl
namespace Go.Proofs.Ytgkpgigoonhgdaa
/- THE CELL 'sum', in the pinned program and in every row, IS THE sha256 OF THE DUMP (.gsa) THAT YtgkpgigoonhgdaaProg.lean LOADS. Nothing in Lean hashes anything: it is a label: what it is worth is what the hold of that sum in a sandbox is worth. -/
noncomputable def Try.pinned : Pinned := { name := "ytgkpgigoonhgdaa", sum := "64769bc778b8032a4dce0defea19e41d4affc6a9160da1a6776a87ee45222569", checked := Try.checked }
namespace Rows
def none {H : Type} : Left H := { results := [], args := [] }

/-- 'laws.FnExactFlowMore': WHATEVER THE INPUT: true; the input reads as it did. -/
def fnExactFlowMoreSpec : ChangeSpec := { name := "fnExactFlowMore", fn := fun _ => fun
  | [d1, d2, d3] => { results := [.lit (.bool true)], args := [d1, d2, d3] }
  | _ => none }
def fnExactFlowMoreRow : OpenClaim := { program := "ytgkpgigoonhgdaa", sum := "64769bc778b8032a4dce0defea19e41d4affc6a9160da1a6776a87ee45222569", func := "loop.example/g00961/laws.FnExactFlowMore", spec := "fnExactFlowMore", apart := false }
def FnExactFlowMoreSaid : Prop := fnExactFlowMoreRow.holds Try.pinned (OpenSpec.ofChange fnExactFlowMoreSpec)

/-- ITS FALSE NEIGHBOUR: 'it returns false'. Refute it at one input. -/
def fnExactFlowMoreWrong : ChangeSpec := { name := "fnExactFlowMore", fn := fun _ => fun
  | [d1, d2, d3] => { results := [.lit (.bool false)], args := [d1, d2, d3] }
  | _ => none }
def FnExactFlowMoreWrongFalsely : Prop := fnExactFlowMoreRow.holds Try.pinned (OpenSpec.ofChange fnExactFlowMoreWrong)

/-- 'laws.FnExactReachedBy': WHATEVER THE INPUT: true; the input reads as it did. -/
def fnExactReachedBySpec : ChangeSpec := { name := "fnExactReachedBy", fn := fun _ => fun
  | [d1, d2] => { results := [.lit (.bool true)], args := [d1, d2] }
  | _ => none }
def fnExactReachedByRow : OpenClaim := { program := "ytgkpgigoonhgdaa", sum := "64769bc778b8032a4dce0defea19e41d4affc6a9160da1a6776a87ee45222569", func := "loop.example/g00961/laws.FnExactReachedBy", spec := "fnExactReachedBy", apart := false }
def FnExactReachedBySaid : Prop := fnExactReachedByRow.holds Try.pinned (OpenSpec.ofChange fnExactReachedBySpec)

/-- ITS FALSE NEIGHBOUR: 'it returns false'. Refute it at one input. -/
def fnExactReachedByWrong : ChangeSpec := { name := "fnExactReachedBy", fn := fun _ => fun
  | [d1, d2] => { results := [.lit (.bool false)], args := [d1, d2] }
  | _ => none }
def FnExactReachedByWrongFalsely : Prop := fnExactReachedByRow.holds Try.pinned (OpenSpec.ofChange fnExactReachedByWrong)

/-- 'laws.FnExactMostFlow': WHATEVER THE INPUT: true; the input reads as it did. -/
def fnExactMostFlowSpec : ChangeSpec := { name := "fnExactMostFlow", fn := fun _ => fun
  | [d] => { results := [.lit (.bool true)], args := [d] }
  | _ => none }
def fnExactMostFlowRow : OpenClaim := { program := "ytgkpgigoonhgdaa", sum := "64769bc778b8032a4dce0defea19e41d4affc6a9160da1a6776a87ee45222569", func := "loop.example/g00961/laws.FnExactMostFlow", spec := "fnExactMostFlow", apart := false }
def FnExactMostFlowSaid : Prop := fnExactMostFlowRow.holds Try.pinned (OpenSpec.ofChange fnExactMostFlowSpec)

/-- ITS FALSE NEIGHBOUR: 'it returns false'. Refute it at one input. -/
def fnExactMostFlowWrong : ChangeSpec := { name := "fnExactMostFlow", fn := fun _ => fun
  | [d] => { results := [.lit (.bool false)], args := [d] }
  | _ => none }
def FnExactMostFlowWrongFalsely : Prop := fnExactMostFlowRow.holds Try.pinned (OpenSpec.ofChange fnExactMostFlowWrong)

/-- 'laws.FnExactLeastCost': WHATEVER THE INPUT: true; the input reads as it did. -/
def fnExactLeastCostSpec : ChangeSpec := { name := "fnExactLeastCost", fn := fun _ => fun
  | [d1, d2] => { results := [.lit (.bool true)], args := [d1, d2] }
  | _ => none }
def fnExactLeastCostRow : OpenClaim := { program := "ytgkpgigoonhgdaa", sum := "64769bc778b8032a4dce0defea19e41d4affc6a9160da1a6776a87ee45222569", func := "loop.example/g00961/laws.FnExactLeastCost", spec := "fnExactLeastCost", apart := false }
def FnExactLeastCostSaid : Prop := fnExactLeastCostRow.holds Try.pinned (OpenSpec.ofChange fnExactLeastCostSpec)

/-- ITS FALSE NEIGHBOUR: 'it returns false'. Refute it at one input. -/
def fnExactLeastCostWrong : ChangeSpec := { name := "fnExactLeastCost", fn := fun _ => fun
  | [d1, d2] => { results := [.lit (.bool false)], args := [d1, d2] }
  | _ => none }
def FnExactLeastCostWrongFalsely : Prop := fnExactLeastCostRow.holds Try.pinned (OpenSpec.ofChange fnExactLeastCostWrong)

/-- 'laws.FnFlows': WHATEVER THE INPUT: true; the input reads as it did. -/
def fnFlowsSpec : ChangeSpec := { name := "fnFlows", fn := fun _ => fun
  | [d] => { results := [.lit (.bool true)], args := [d] }
  | _ => none }
def fnFlowsRow : OpenClaim := { program := "ytgkpgigoonhgdaa", sum := "64769bc778b8032a4dce0defea19e41d4affc6a9160da1a6776a87ee45222569", func := "loop.example/g00961/laws.FnFlows", spec := "fnFlows", apart := false }
def FnFlowsSaid : Prop := fnFlowsRow.holds Try.pinned (OpenSpec.ofChange fnFlowsSpec)

/-- ITS FALSE NEIGHBOUR: 'it returns false'. Refute it at one input. -/
def fnFlowsWrong : ChangeSpec := { name := "fnFlows", fn := fun _ => fun
  | [d] => { results := [.lit (.bool false)], args := [d] }
  | _ => none }
def FnFlowsWrongFalsely : Prop := fnFlowsRow.holds Try.pinned (OpenSpec.ofChange fnFlowsWrong)

/-- 'laws.FnMostCut': WHATEVER THE INPUT: true; the input reads as it did. -/
def fnMostCutSpec : ChangeSpec := { name := "fnMostCut", fn := fun _ => fun
  | [d] => { results := [.lit (.bool true)], args := [d] }
  | _ => none }
def fnMostCutRow : OpenClaim := { program := "ytgkpgigoonhgdaa", sum := "64769bc778b8032a4dce0defea19e41d4affc6a9160da1a6776a87ee45222569", func := "loop.example/g00961/laws.FnMostCut", spec := "fnMostCut", apart := false }
def FnMostCutSaid : Prop := fnMostCutRow.holds Try.pinned (OpenSpec.ofChange fnMostCutSpec)

/-- ITS FALSE NEIGHBOUR: 'it returns false'. Refute it at one input. -/
def fnMostCutWrong : ChangeSpec := { name := "fnMostCut", fn := fun _ => fun
  | [d] => { results := [.lit (.bool false)], args := [d] }
  | _ => none }
def FnMostCutWrongFalsely : Prop := fnMostCutRow.holds Try.pinned (OpenSpec.ofChange fnMostCutWrong)

/-- 'laws.FnCheapest': WHATEVER THE INPUT: true; the input reads as it did. -/
def fnCheapestSpec : ChangeSpec := { name := "fnCheapest", fn := fun _ => fun
  | [d] => { results := [.lit (.bool true)], args := [d] }
  | _ => none }
def fnCheapestRow : OpenClaim := { program := "ytgkpgigoonhgdaa", sum := "64769bc778b8032a4dce0defea19e41d4affc6a9160da1a6776a87ee45222569", func := "loop.example/g00961/laws.FnCheapest", spec := "fnCheapest", apart := false }
def FnCheapestSaid : Prop := fnCheapestRow.holds Try.pinned (OpenSpec.ofChange fnCheapestSpec)

/-- ITS FALSE NEIGHBOUR: 'it returns false'. Refute it at one input. -/
def fnCheapestWrong : ChangeSpec := { name := "fnCheapest", fn := fun _ => fun
  | [d] => { results := [.lit (.bool false)], args := [d] }
  | _ => none }
def FnCheapestWrongFalsely : Prop := fnCheapestRow.holds Try.pinned (OpenSpec.ofChange fnCheapestWrong)

/- THE SECOND FORM. 'bulk': how many values and letters a reading holds, each counted each time it is reached (what is shared counts as often as it is met; a slice's spare places count too). A statement '..UptoSaid' is the law's where the arguments, and the package variables that the reading takes, are together of bulk at most 1048576: NARROWER than '..Said'. Prove '..Said' where nothing that the law and all that it calls make is longer than what came in: it says more and counts as full. Else prove '..UptoSaid'. A law counts once. -/
mutual
def uptoBulk {H : Type} : DataW H → Nat
  | .lit (.string bytes) => bytes.length + 1
  | .lit _ => 1
  | .nil => 1
  | .ptr d => uptoBulk d + 1
  | .slice elems spare => uptoBulkAll elems + uptoBulkAll spare + 1
  | .agg parts => uptoBulkAll parts + 1
  | .iface _ d => uptoBulk d + 1
  | .map entries => uptoBulkEntries entries + 1
  | .held _ => 1
def uptoBulkAll {H : Type} : List (DataW H) → Nat
  | [] => 0
  | d :: r => uptoBulk d + uptoBulkAll r
def uptoBulkEntries {H : Type} : List (Lit × DataW H) → Nat
  | [] => 0
  | x :: r => uptoBulkEntry x + uptoBulkEntries r
def uptoBulkEntry {H : Type} : Lit × DataW H → Nat
  | (.string bytes, d) => bytes.length + uptoBulk d + 1
  | (_, d) => uptoBulk d + 1
 end
def uptoSmall : (H : Type) → List (DataW H) → Bool := fun _ ds => decide (uptoBulkAll ds ≤ 1048576)
def OpenSpec.upto (s : _root_.Go.ChangeSpec) : _root_.Go.OpenSpec := { _root_.Go.OpenSpec.ofChange s with cond := some uptoSmall }

/-- 'laws.FnExactFlowMore', WHERE WHAT IT READS IS OF BULK AT MOST 1048576: true; the input reads as it did. -/
def fnExactFlowMoreUptoRow : OpenClaim := { program := "ytgkpgigoonhgdaa", sum := "64769bc778b8032a4dce0defea19e41d4affc6a9160da1a6776a87ee45222569", func := "loop.example/g00961/laws.FnExactFlowMore", spec := "fnExactFlowMore", apart := false, narrowed := true }
def FnExactFlowMoreUptoSaid : Prop := fnExactFlowMoreUptoRow.holds Try.pinned (OpenSpec.upto fnExactFlowMoreSpec)

/-- 'laws.FnExactReachedBy', WHERE WHAT IT READS IS OF BULK AT MOST 1048576: true; the input reads as it did. -/
def fnExactReachedByUptoRow : OpenClaim := { program := "ytgkpgigoonhgdaa", sum := "64769bc778b8032a4dce0defea19e41d4affc6a9160da1a6776a87ee45222569", func := "loop.example/g00961/laws.FnExactReachedBy", spec := "fnExactReachedBy", apart := false, narrowed := true }
def FnExactReachedByUptoSaid : Prop := fnExactReachedByUptoRow.holds Try.pinned (OpenSpec.upto fnExactReachedBySpec)

/-- 'laws.FnExactMostFlow', WHERE WHAT IT READS IS OF BULK AT MOST 1048576: true; the input reads as it did. -/
def fnExactMostFlowUptoRow : OpenClaim := { program := "ytgkpgigoonhgdaa", sum := "64769bc778b8032a4dce0defea19e41d4affc6a9160da1a6776a87ee45222569", func := "loop.example/g00961/laws.FnExactMostFlow", spec := "fnExactMostFlow", apart := false, narrowed := true }
def FnExactMostFlowUptoSaid : Prop := fnExactMostFlowUptoRow.holds Try.pinned (OpenSpec.upto fnExactMostFlowSpec)

/-- 'laws.FnExactLeastCost', WHERE WHAT IT READS IS OF BULK AT MOST 1048576: true; the input reads as it did. -/
def fnExactLeastCostUptoRow : OpenClaim := { program := "ytgkpgigoonhgdaa", sum := "64769bc778b8032a4dce0defea19e41d4affc6a9160da1a6776a87ee45222569", func := "loop.example/g00961/laws.FnExactLeastCost", spec := "fnExactLeastCost", apart := false, narrowed := true }
def FnExactLeastCostUptoSaid : Prop := fnExactLeastCostUptoRow.holds Try.pinned (OpenSpec.upto fnExactLeastCostSpec)

/-- 'laws.FnFlows', WHERE WHAT IT READS IS OF BULK AT MOST 1048576: true; the input reads as it did. -/
def fnFlowsUptoRow : OpenClaim := { program := "ytgkpgigoonhgdaa", sum := "64769bc778b8032a4dce0defea19e41d4affc6a9160da1a6776a87ee45222569", func := "loop.example/g00961/laws.FnFlows", spec := "fnFlows", apart := false, narrowed := true }
def FnFlowsUptoSaid : Prop := fnFlowsUptoRow.holds Try.pinned (OpenSpec.upto fnFlowsSpec)

/-- 'laws.FnMostCut', WHERE WHAT IT READS IS OF BULK AT MOST 1048576: true; the input reads as it did. -/
def fnMostCutUptoRow : OpenClaim := { program := "ytgkpgigoonhgdaa", sum := "64769bc778b8032a4dce0defea19e41d4affc6a9160da1a6776a87ee45222569", func := "loop.example/g00961/laws.FnMostCut", spec := "fnMostCut", apart := false, narrowed := true }
def FnMostCutUptoSaid : Prop := fnMostCutUptoRow.holds Try.pinned (OpenSpec.upto fnMostCutSpec)

/-- 'laws.FnCheapest', WHERE WHAT IT READS IS OF BULK AT MOST 1048576: true; the input reads as it did. -/
def fnCheapestUptoRow : OpenClaim := { program := "ytgkpgigoonhgdaa", sum := "64769bc778b8032a4dce0defea19e41d4affc6a9160da1a6776a87ee45222569", func := "loop.example/g00961/laws.FnCheapest", spec := "fnCheapest", apart := false, narrowed := true }
def FnCheapestUptoSaid : Prop := fnCheapestUptoRow.holds Try.pinned (OpenSpec.upto fnCheapestSpec)

end Rows
end Go.Proofs.Ytgkpgigoonhgdaa

/-
  No cell of these rows narrows 'for every input' (looked for: loops, veiled, ifaces, maps, wideKeys, modest, calm, conditions, laid).
  DERIVED. THE GIVEN ROWS OF THIS SEAT. 5 by the template 'for every input the law returns true; each argument reads behind the call as it read before'; 0 by the template 'total and deterministic' (their statements: YtabepbkolmimlaaTotals.lean).
  GIVEN WITH THE SEED: the statements are not yours to turn. If you find one false, say at which input.
  Laid BY PROGRAM, IN A SANDBOX (cutbox-rows.mjs): the forced cells as the released guide's own fill.sh prints them over the translation 995500554ebb1f59… (all of the seat's roots in one cut). By AI agents, Wed Nov 11 2026. No macro, syntax, notation, axiom, sorry.
-/
import Derived.Test.YtabepbkolmimlaaChecked
import GoSem.Claim
import GoSem.ClaimJoined
import GoSem.ClaimMapViews
import Derived.JoinedTies
import Derived.KernelRfl
namespace Go.Proofs.Ytabepbkolmimlaa
/- THE CELL 'sum', in the pinned program and in every row, IS THE sha256 OF THE DUMP (.gsa) THAT YtabepbkolmimlaaProg.lean LOADS. Nothing in Lean hashes anything: it is a label: what it is worth is what the hold of that sum in a sandbox is worth. -/
noncomputable def Try.pinned : Pinned := { name := "ytabepbkolmimlaa", sum := "995500554ebb1f594fd94ca5dbf404c4a00635443080d39767e90d2df0b968f1", checked := Try.checked }
namespace Rows
def none {H : Type} : Left H := { results := [], args := [] }

/-- 'laws.FnExactWayTo': WHATEVER THE INPUT: true; the input reads as it did. -/
def fnExactWayToSpec : ChangeSpec := { name := "fnExactWayTo", fn := fun _ => fun
  | [d1, d2, d3] => { results := [.lit (.bool true)], args := [d1, d2, d3] }
  | _ => none }
def fnExactWayToRow : OpenClaim := { program := "ytabepbkolmimlaa", sum := "995500554ebb1f594fd94ca5dbf404c4a00635443080d39767e90d2df0b968f1", func := "loop.example/g00961/laws.FnExactWayTo", spec := "fnExactWayTo", unfollowed := true, recurses := true, apart := false }
def FnExactWayToSaid : Prop := fnExactWayToRow.holds Try.pinned (OpenSpec.ofChange fnExactWayToSpec)

/-- ITS FALSE NEIGHBOUR: 'it returns false'. Refute it at one input. -/
def fnExactWayToWrong : ChangeSpec := { name := "fnExactWayTo", fn := fun _ => fun
  | [d1, d2, d3] => { results := [.lit (.bool false)], args := [d1, d2, d3] }
  | _ => none }
def FnExactWayToWrongFalsely : Prop := fnExactWayToRow.holds Try.pinned (OpenSpec.ofChange fnExactWayToWrong)

/-- 'laws.FnExactCountIn': WHATEVER THE INPUT: true; the input reads as it did. -/
def fnExactCountInSpec : ChangeSpec := { name := "fnExactCountIn", fn := fun _ => fun
  | [d1, d2, d3] => { results := [.lit (.bool true)], args := [d1, d2, d3] }
  | _ => none }
def fnExactCountInRow : OpenClaim := { program := "ytabepbkolmimlaa", sum := "995500554ebb1f594fd94ca5dbf404c4a00635443080d39767e90d2df0b968f1", func := "loop.example/g00961/laws.FnExactCountIn", spec := "fnExactCountIn", unfollowed := true, recurses := true, apart := false }
def FnExactCountInSaid : Prop := fnExactCountInRow.holds Try.pinned (OpenSpec.ofChange fnExactCountInSpec)

/-- ITS FALSE NEIGHBOUR: 'it returns false'. Refute it at one input. -/
def fnExactCountInWrong : ChangeSpec := { name := "fnExactCountIn", fn := fun _ => fun
  | [d1, d2, d3] => { results := [.lit (.bool false)], args := [d1, d2, d3] }
  | _ => none }
def FnExactCountInWrongFalsely : Prop := fnExactCountInRow.holds Try.pinned (OpenSpec.ofChange fnExactCountInWrong)

/-- 'laws.FnExactEnough': WHATEVER THE INPUT: true; the input reads as it did. -/
def fnExactEnoughSpec : ChangeSpec := { name := "fnExactEnough", fn := fun _ => fun
  | [d1, d2, d3] => { results := [.lit (.bool true)], args := [d1, d2, d3] }
  | _ => none }
def fnExactEnoughRow : OpenClaim := { program := "ytabepbkolmimlaa", sum := "995500554ebb1f594fd94ca5dbf404c4a00635443080d39767e90d2df0b968f1", func := "loop.example/g00961/laws.FnExactEnough", spec := "fnExactEnough", unfollowed := true, recurses := true, apart := false }
def FnExactEnoughSaid : Prop := fnExactEnoughRow.holds Try.pinned (OpenSpec.ofChange fnExactEnoughSpec)

/-- ITS FALSE NEIGHBOUR: 'it returns false'. Refute it at one input. -/
def fnExactEnoughWrong : ChangeSpec := { name := "fnExactEnough", fn := fun _ => fun
  | [d1, d2, d3] => { results := [.lit (.bool false)], args := [d1, d2, d3] }
  | _ => none }
def FnExactEnoughWrongFalsely : Prop := fnExactEnoughRow.holds Try.pinned (OpenSpec.ofChange fnExactEnoughWrong)

/-- 'laws.FnSteps': WHATEVER THE INPUT: true; the input reads as it did. -/
def fnStepsSpec : ChangeSpec := { name := "fnSteps", fn := fun _ => fun
  | [d] => { results := [.lit (.bool true)], args := [d] }
  | _ => none }
def fnStepsRow : OpenClaim := { program := "ytabepbkolmimlaa", sum := "995500554ebb1f594fd94ca5dbf404c4a00635443080d39767e90d2df0b968f1", func := "loop.example/g00961/laws.FnSteps", spec := "fnSteps", unfollowed := true, recurses := true, apart := false }
def FnStepsSaid : Prop := fnStepsRow.holds Try.pinned (OpenSpec.ofChange fnStepsSpec)

/-- ITS FALSE NEIGHBOUR: 'it returns false'. Refute it at one input. -/
def fnStepsWrong : ChangeSpec := { name := "fnSteps", fn := fun _ => fun
  | [d] => { results := [.lit (.bool false)], args := [d] }
  | _ => none }
def FnStepsWrongFalsely : Prop := fnStepsRow.holds Try.pinned (OpenSpec.ofChange fnStepsWrong)

/-- 'laws.FnHomes': WHATEVER THE INPUT: true; the input reads as it did. -/
def fnHomesSpec : ChangeSpec := { name := "fnHomes", fn := fun _ => fun
  | [d] => { results := [.lit (.bool true)], args := [d] }
  | _ => none }
def fnHomesRow : OpenClaim := { program := "ytabepbkolmimlaa", sum := "995500554ebb1f594fd94ca5dbf404c4a00635443080d39767e90d2df0b968f1", func := "loop.example/g00961/laws.FnHomes", spec := "fnHomes", unfollowed := true, recurses := true, apart := false }
def FnHomesSaid : Prop := fnHomesRow.holds Try.pinned (OpenSpec.ofChange fnHomesSpec)

/-- ITS FALSE NEIGHBOUR: 'it returns false'. Refute it at one input. -/
def fnHomesWrong : ChangeSpec := { name := "fnHomes", fn := fun _ => fun
  | [d] => { results := [.lit (.bool false)], args := [d] }
  | _ => none }
def FnHomesWrongFalsely : Prop := fnHomesRow.holds Try.pinned (OpenSpec.ofChange fnHomesWrong)

/- THE SECOND FORM. 'bulk': how many values and letters a reading holds, each counted each time it is reached (what is shared counts as often as it is met; a slice's spare places count too). A statement '..UptoSaid' is the law's where the arguments, and the package variables that the reading takes, are together of bulk at most 1048576: NARROWER than '..Said'. Prove '..Said' where nothing that the law and all that it calls make is longer than what came in: it says more and counts as full. Else prove '..UptoSaid'. A law counts once. -/
mutual
def uptoBulk {H : Type} : DataW H → Nat
  | .lit (.string bytes) => bytes.length + 1
  | .lit _ => 1
  | .nil => 1
  | .ptr d => uptoBulk d + 1
  | .slice elems spare => uptoBulkAll elems + uptoBulkAll spare + 1
  | .agg parts => uptoBulkAll parts + 1
  | .iface _ d => uptoBulk d + 1
  | .map entries => uptoBulkEntries entries + 1
  | .held _ => 1
def uptoBulkAll {H : Type} : List (DataW H) → Nat
  | [] => 0
  | d :: r => uptoBulk d + uptoBulkAll r
def uptoBulkEntries {H : Type} : List (Lit × DataW H) → Nat
  | [] => 0
  | x :: r => uptoBulkEntry x + uptoBulkEntries r
def uptoBulkEntry {H : Type} : Lit × DataW H → Nat
  | (.string bytes, d) => bytes.length + uptoBulk d + 1
  | (_, d) => uptoBulk d + 1
 end
def uptoSmall : (H : Type) → List (DataW H) → Bool := fun _ ds => decide (uptoBulkAll ds ≤ 1048576)
def OpenSpec.upto (s : _root_.Go.ChangeSpec) : _root_.Go.OpenSpec := { _root_.Go.OpenSpec.ofChange s with cond := some uptoSmall }

/-- 'laws.FnExactWayTo', WHERE WHAT IT READS IS OF BULK AT MOST 1048576: true; the input reads as it did. -/
def fnExactWayToUptoRow : OpenClaim := { program := "ytabepbkolmimlaa", sum := "995500554ebb1f594fd94ca5dbf404c4a00635443080d39767e90d2df0b968f1", func := "loop.example/g00961/laws.FnExactWayTo", spec := "fnExactWayTo", unfollowed := true, recurses := true, apart := false, narrowed := true }
def FnExactWayToUptoSaid : Prop := fnExactWayToUptoRow.holds Try.pinned (OpenSpec.upto fnExactWayToSpec)

/-- 'laws.FnExactCountIn', WHERE WHAT IT READS IS OF BULK AT MOST 1048576: true; the input reads as it did. -/
def fnExactCountInUptoRow : OpenClaim := { program := "ytabepbkolmimlaa", sum := "995500554ebb1f594fd94ca5dbf404c4a00635443080d39767e90d2df0b968f1", func := "loop.example/g00961/laws.FnExactCountIn", spec := "fnExactCountIn", unfollowed := true, recurses := true, apart := false, narrowed := true }
def FnExactCountInUptoSaid : Prop := fnExactCountInUptoRow.holds Try.pinned (OpenSpec.upto fnExactCountInSpec)

/-- 'laws.FnExactEnough', WHERE WHAT IT READS IS OF BULK AT MOST 1048576: true; the input reads as it did. -/
def fnExactEnoughUptoRow : OpenClaim := { program := "ytabepbkolmimlaa", sum := "995500554ebb1f594fd94ca5dbf404c4a00635443080d39767e90d2df0b968f1", func := "loop.example/g00961/laws.FnExactEnough", spec := "fnExactEnough", unfollowed := true, recurses := true, apart := false, narrowed := true }
def FnExactEnoughUptoSaid : Prop := fnExactEnoughUptoRow.holds Try.pinned (OpenSpec.upto fnExactEnoughSpec)

/-- 'laws.FnSteps', WHERE WHAT IT READS IS OF BULK AT MOST 1048576: true; the input reads as it did. -/
def fnStepsUptoRow : OpenClaim := { program := "ytabepbkolmimlaa", sum := "995500554ebb1f594fd94ca5dbf404c4a00635443080d39767e90d2df0b968f1", func := "loop.example/g00961/laws.FnSteps", spec := "fnSteps", unfollowed := true, recurses := true, apart := false, narrowed := true }
def FnStepsUptoSaid : Prop := fnStepsUptoRow.holds Try.pinned (OpenSpec.upto fnStepsSpec)

/-- 'laws.FnHomes', WHERE WHAT IT READS IS OF BULK AT MOST 1048576: true; the input reads as it did. -/
def fnHomesUptoRow : OpenClaim := { program := "ytabepbkolmimlaa", sum := "995500554ebb1f594fd94ca5dbf404c4a00635443080d39767e90d2df0b968f1", func := "loop.example/g00961/laws.FnHomes", spec := "fnHomes", unfollowed := true, recurses := true, apart := false, narrowed := true }
def FnHomesUptoSaid : Prop := fnHomesUptoRow.holds Try.pinned (OpenSpec.upto fnHomesSpec)

end Rows
end Go.Proofs.Ytabepbkolmimlaa

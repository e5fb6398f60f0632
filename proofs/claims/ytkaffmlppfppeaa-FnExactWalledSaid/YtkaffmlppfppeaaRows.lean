/-
  No cell of these rows narrows 'for every input' (looked for: loops, veiled, ifaces, maps, wideKeys, modest, calm, conditions, laid).
  DERIVED. THE GIVEN ROWS OF THIS SEAT. 3 by the template 'for every input the law returns true; each argument reads behind the call as it read before'; 0 by the template 'total and deterministic' (their statements: YtkaffmlppfppeaaTotals.lean).
  GIVEN WITH THE SEED: the statements are not yours to turn. If you find one false, say at which input.
  Laid BY PROGRAM, IN A SANDBOX (cutbox-rows.mjs): the forced cells as the released guide's own fill.sh prints them over the translation 9d363a0b97867619… (all of the seat's roots in one cut). By AI agents, Wed Nov 11 2026. No macro, syntax, notation, axiom, sorry.
-/
import Derived.Test.YtkaffmlppfppeaaChecked
import GoSem.Claim
import GoSem.ClaimJoined
import GoSem.ClaimMapViews
import Derived.JoinedTies
import Derived.KernelRfl
namespace Go.Proofs.Ytkaffmlppfppeaa
/- THE CELL 'sum', in the pinned program and in every row, IS THE sha256 OF THE DUMP (.gsa) THAT YtkaffmlppfppeaaProg.lean LOADS. Nothing in Lean hashes anything: it is a label: what it is worth is what the hold of that sum in a sandbox is worth. -/
noncomputable def Try.pinned : Pinned := { name := "ytkaffmlppfppeaa", sum := "9d363a0b97867619b6efcea8b6c76e180a991aeeb1c142d7647652985963c25a", checked := Try.checked }
namespace Rows
def none {H : Type} : Left H := { results := [], args := [] }

/-- 'laws.FnExactWalled': WHATEVER THE INPUT: true; the input reads as it did. -/
def fnExactWalledSpec : ChangeSpec := { name := "fnExactWalled", fn := fun _ => fun
  | [d1, d2] => { results := [.lit (.bool true)], args := [d1, d2] }
  | _ => none }
def fnExactWalledRow : OpenClaim := { program := "ytkaffmlppfppeaa", sum := "9d363a0b97867619b6efcea8b6c76e180a991aeeb1c142d7647652985963c25a", func := "loop.example/g00961/laws.FnExactWalled", spec := "fnExactWalled", apart := false }
def FnExactWalledSaid : Prop := fnExactWalledRow.holds Try.pinned (OpenSpec.ofChange fnExactWalledSpec)

/-- ITS FALSE NEIGHBOUR: 'it returns false'. Refute it at one input. -/
def fnExactWalledWrong : ChangeSpec := { name := "fnExactWalled", fn := fun _ => fun
  | [d1, d2] => { results := [.lit (.bool false)], args := [d1, d2] }
  | _ => none }
def FnExactWalledWrongFalsely : Prop := fnExactWalledRow.holds Try.pinned (OpenSpec.ofChange fnExactWalledWrong)

/-- 'laws.FnZones': WHATEVER THE INPUT: true; the input reads as it did. -/
def fnZonesSpec : ChangeSpec := { name := "fnZones", fn := fun _ => fun
  | [d] => { results := [.lit (.bool true)], args := [d] }
  | _ => none }
def fnZonesRow : OpenClaim := { program := "ytkaffmlppfppeaa", sum := "9d363a0b97867619b6efcea8b6c76e180a991aeeb1c142d7647652985963c25a", func := "loop.example/g00961/laws.FnZones", spec := "fnZones", apart := false }
def FnZonesSaid : Prop := fnZonesRow.holds Try.pinned (OpenSpec.ofChange fnZonesSpec)

/-- ITS FALSE NEIGHBOUR: 'it returns false'. Refute it at one input. -/
def fnZonesWrong : ChangeSpec := { name := "fnZones", fn := fun _ => fun
  | [d] => { results := [.lit (.bool false)], args := [d] }
  | _ => none }
def FnZonesWrongFalsely : Prop := fnZonesRow.holds Try.pinned (OpenSpec.ofChange fnZonesWrong)

/-- 'laws.FnExactParksIn': WHATEVER THE INPUT: true; the input reads as it did. -/
def fnExactParksInSpec : ChangeSpec := { name := "fnExactParksIn", fn := fun _ => fun
  | [d1, d2] => { results := [.lit (.bool true)], args := [d1, d2] }
  | _ => none }
def fnExactParksInRow : OpenClaim := { program := "ytkaffmlppfppeaa", sum := "9d363a0b97867619b6efcea8b6c76e180a991aeeb1c142d7647652985963c25a", func := "loop.example/g00961/laws.FnExactParksIn", spec := "fnExactParksIn", apart := false }
def FnExactParksInSaid : Prop := fnExactParksInRow.holds Try.pinned (OpenSpec.ofChange fnExactParksInSpec)

/-- ITS FALSE NEIGHBOUR: 'it returns false'. Refute it at one input. -/
def fnExactParksInWrong : ChangeSpec := { name := "fnExactParksIn", fn := fun _ => fun
  | [d1, d2] => { results := [.lit (.bool false)], args := [d1, d2] }
  | _ => none }
def FnExactParksInWrongFalsely : Prop := fnExactParksInRow.holds Try.pinned (OpenSpec.ofChange fnExactParksInWrong)

/- THE SECOND FORM. 'bulk': how many values and letters a reading holds, each counted each time it is reached (what is shared counts as often as it is met; a slice's spare places count too). A statement '..UptoSaid' is the law's where the arguments, and the package variables that the reading takes, are together of bulk at most 1048576: NARROWER than '..Said'. Prove '..Said' where nothing that the law and all that it calls make is longer than what came in: it says more and counts as full. Else prove '..UptoSaid'. A law counts once. -/
mutual
def uptoBulk {H : Type} : DataW H → Nat
  | .lit (.string bytes) => bytes.length + 1
  | .lit _ => 1
  | .nil => 1
  | .ptr d => uptoBulk d + 1
  | .slice elems spare => uptoBulkAll elems + uptoBulkAll spare + 1
  | .agg parts => uptoBulkAll parts + 1
  | .iface _ d => uptoBulk d + 1
  | .map entries => uptoBulkEntries entries + 1
  | .held _ => 1
def uptoBulkAll {H : Type} : List (DataW H) → Nat
  | [] => 0
  | d :: r => uptoBulk d + uptoBulkAll r
def uptoBulkEntries {H : Type} : List (Lit × DataW H) → Nat
  | [] => 0
  | x :: r => uptoBulkEntry x + uptoBulkEntries r
def uptoBulkEntry {H : Type} : Lit × DataW H → Nat
  | (.string bytes, d) => bytes.length + uptoBulk d + 1
  | (_, d) => uptoBulk d + 1
 end
def uptoSmall : (H : Type) → List (DataW H) → Bool := fun _ ds => decide (uptoBulkAll ds ≤ 1048576)
def OpenSpec.upto (s : _root_.Go.ChangeSpec) : _root_.Go.OpenSpec := { _root_.Go.OpenSpec.ofChange s with cond := some uptoSmall }

/-- 'laws.FnExactWalled', WHERE WHAT IT READS IS OF BULK AT MOST 1048576: true; the input reads as it did. -/
def fnExactWalledUptoRow : OpenClaim := { program := "ytkaffmlppfppeaa", sum := "9d363a0b97867619b6efcea8b6c76e180a991aeeb1c142d7647652985963c25a", func := "loop.example/g00961/laws.FnExactWalled", spec := "fnExactWalled", apart := false, narrowed := true }
def FnExactWalledUptoSaid : Prop := fnExactWalledUptoRow.holds Try.pinned (OpenSpec.upto fnExactWalledSpec)

/-- 'laws.FnZones', WHERE WHAT IT READS IS OF BULK AT MOST 1048576: true; the input reads as it did. -/
def fnZonesUptoRow : OpenClaim := { program := "ytkaffmlppfppeaa", sum := "9d363a0b97867619b6efcea8b6c76e180a991aeeb1c142d7647652985963c25a", func := "loop.example/g00961/laws.FnZones", spec := "fnZones", apart := false, narrowed := true }
def FnZonesUptoSaid : Prop := fnZonesUptoRow.holds Try.pinned (OpenSpec.upto fnZonesSpec)

/-- 'laws.FnExactParksIn', WHERE WHAT IT READS IS OF BULK AT MOST 1048576: true; the input reads as it did. -/
def fnExactParksInUptoRow : OpenClaim := { program := "ytkaffmlppfppeaa", sum := "9d363a0b97867619b6efcea8b6c76e180a991aeeb1c142d7647652985963c25a", func := "loop.example/g00961/laws.FnExactParksIn", spec := "fnExactParksIn", apart := false, narrowed := true }
def FnExactParksInUptoSaid : Prop := fnExactParksInUptoRow.holds Try.pinned (OpenSpec.upto fnExactParksInSpec)

end Rows
end Go.Proofs.Ytkaffmlppfppeaa

/-
  No cell of these rows narrows 'for every input' (looked for: loops, veiled, ifaces, maps, wideKeys, modest, calm, conditions, laid).
  DERIVED. THE GIVEN ROWS OF THIS SEAT. 12 by the template 'for every input the law returns true; each argument reads behind the call as it read before'; 0 by the template 'total and deterministic' (their statements: YtkmbefadmoidbaaTotals.lean).
  GIVEN WITH THE SEED: the statements are not yours to turn. If you find one false, say at which input.
  Laid BY PROGRAM, IN A SANDBOX (cutbox-rows.mjs): the forced cells as the released guide's own fill.sh prints them over the translation a809ef1fbe83a1ca… (all of the seat's roots in one cut). By AI agents, Wed Nov 11 2026. No macro, syntax, notation, axiom, sorry.
-/
import Derived.Test.YtkmbefadmoidbaaChecked
import GoSem.Claim
import GoSem.ClaimJoined
import GoSem.ClaimMapViews
import Derived.JoinedTies
import Derived.KernelRfl
namespace Go.Proofs.Ytkmbefadmoidbaa
/- THE CELL 'sum', in the pinned program and in every row, IS THE sha256 OF THE DUMP (.gsa) THAT YtkmbefadmoidbaaProg.lean LOADS. Nothing in Lean hashes anything: it is a label: what it is worth is what the hold of that sum in a sandbox is worth. -/
noncomputable def Try.pinned : Pinned := { name := "ytkmbefadmoidbaa", sum := "a809ef1fbe83a1ca8d84c6f561b4e15275de9b3f686ed07ea25118b8488b0d2b", checked := Try.checked }
namespace Rows
def none {H : Type} : Left H := { results := [], args := [] }

/-- 'laws.FnExactConstants': WHATEVER THE INPUT: true; the input reads as it did. -/
def fnExactConstantsSpec : ChangeSpec := { name := "fnExactConstants", fn := fun _ => fun
  | [] => { results := [.lit (.bool true)], args := [] }
  | _ => none }
def fnExactConstantsRow : OpenClaim := { program := "ytkmbefadmoidbaa", sum := "a809ef1fbe83a1ca8d84c6f561b4e15275de9b3f686ed07ea25118b8488b0d2b", func := "loop.example/g00961/laws.FnExactConstants", spec := "fnExactConstants", apart := false }
def FnExactConstantsSaid : Prop := fnExactConstantsRow.holds Try.pinned (OpenSpec.ofChange fnExactConstantsSpec)

/-- ITS FALSE NEIGHBOUR: 'it returns false'. Refute it at one input. -/
def fnExactConstantsWrong : ChangeSpec := { name := "fnExactConstants", fn := fun _ => fun
  | [] => { results := [.lit (.bool false)], args := [] }
  | _ => none }
def FnExactConstantsWrongFalsely : Prop := fnExactConstantsRow.holds Try.pinned (OpenSpec.ofChange fnExactConstantsWrong)

/-- 'laws.FnExactBrought': WHATEVER THE INPUT: true; the input reads as it did. -/
def fnExactBroughtSpec : ChangeSpec := { name := "fnExactBrought", fn := fun _ => fun
  | [d1, d2, d3] => { results := [.lit (.bool true)], args := [d1, d2, d3] }
  | _ => none }
def fnExactBroughtRow : OpenClaim := { program := "ytkmbefadmoidbaa", sum := "a809ef1fbe83a1ca8d84c6f561b4e15275de9b3f686ed07ea25118b8488b0d2b", func := "loop.example/g00961/laws.FnExactBrought", spec := "fnExactBrought", apart := false }
def FnExactBroughtSaid : Prop := fnExactBroughtRow.holds Try.pinned (OpenSpec.ofChange fnExactBroughtSpec)

/-- ITS FALSE NEIGHBOUR: 'it returns false'. Refute it at one input. -/
def fnExactBroughtWrong : ChangeSpec := { name := "fnExactBrought", fn := fun _ => fun
  | [d1, d2, d3] => { results := [.lit (.bool false)], args := [d1, d2, d3] }
  | _ => none }
def FnExactBroughtWrongFalsely : Prop := fnExactBroughtRow.holds Try.pinned (OpenSpec.ofChange fnExactBroughtWrong)

/-- 'laws.FnExactHex': WHATEVER THE INPUT: true; the input reads as it did. -/
def fnExactHexSpec : ChangeSpec := { name := "fnExactHex", fn := fun _ => fun
  | [d] => { results := [.lit (.bool true)], args := [d] }
  | _ => none }
def fnExactHexRow : OpenClaim := { program := "ytkmbefadmoidbaa", sum := "a809ef1fbe83a1ca8d84c6f561b4e15275de9b3f686ed07ea25118b8488b0d2b", func := "loop.example/g00961/laws.FnExactHex", spec := "fnExactHex", apart := false }
def FnExactHexSaid : Prop := fnExactHexRow.holds Try.pinned (OpenSpec.ofChange fnExactHexSpec)

/-- ITS FALSE NEIGHBOUR: 'it returns false'. Refute it at one input. -/
def fnExactHexWrong : ChangeSpec := { name := "fnExactHex", fn := fun _ => fun
  | [d] => { results := [.lit (.bool false)], args := [d] }
  | _ => none }
def FnExactHexWrongFalsely : Prop := fnExactHexRow.holds Try.pinned (OpenSpec.ofChange fnExactHexWrong)

/-- 'laws.FnExactGridOk': WHATEVER THE INPUT: true; the input reads as it did. -/
def fnExactGridOkSpec : ChangeSpec := { name := "fnExactGridOk", fn := fun _ => fun
  | [d] => { results := [.lit (.bool true)], args := [d] }
  | _ => none }
def fnExactGridOkRow : OpenClaim := { program := "ytkmbefadmoidbaa", sum := "a809ef1fbe83a1ca8d84c6f561b4e15275de9b3f686ed07ea25118b8488b0d2b", func := "loop.example/g00961/laws.FnExactGridOk", spec := "fnExactGridOk", apart := false }
def FnExactGridOkSaid : Prop := fnExactGridOkRow.holds Try.pinned (OpenSpec.ofChange fnExactGridOkSpec)

/-- ITS FALSE NEIGHBOUR: 'it returns false'. Refute it at one input. -/
def fnExactGridOkWrong : ChangeSpec := { name := "fnExactGridOk", fn := fun _ => fun
  | [d] => { results := [.lit (.bool false)], args := [d] }
  | _ => none }
def FnExactGridOkWrongFalsely : Prop := fnExactGridOkRow.holds Try.pinned (OpenSpec.ofChange fnExactGridOkWrong)

/-- 'laws.FnExactFreeAt': WHATEVER THE INPUT: true; the input reads as it did. -/
def fnExactFreeAtSpec : ChangeSpec := { name := "fnExactFreeAt", fn := fun _ => fun
  | [d1, d2] => { results := [.lit (.bool true)], args := [d1, d2] }
  | _ => none }
def fnExactFreeAtRow : OpenClaim := { program := "ytkmbefadmoidbaa", sum := "a809ef1fbe83a1ca8d84c6f561b4e15275de9b3f686ed07ea25118b8488b0d2b", func := "loop.example/g00961/laws.FnExactFreeAt", spec := "fnExactFreeAt", apart := false }
def FnExactFreeAtSaid : Prop := fnExactFreeAtRow.holds Try.pinned (OpenSpec.ofChange fnExactFreeAtSpec)

/-- ITS FALSE NEIGHBOUR: 'it returns false'. Refute it at one input. -/
def fnExactFreeAtWrong : ChangeSpec := { name := "fnExactFreeAt", fn := fun _ => fun
  | [d1, d2] => { results := [.lit (.bool false)], args := [d1, d2] }
  | _ => none }
def FnExactFreeAtWrongFalsely : Prop := fnExactFreeAtRow.holds Try.pinned (OpenSpec.ofChange fnExactFreeAtWrong)

/-- 'laws.FnExactUnhex': WHATEVER THE INPUT: true; the input reads as it did. -/
def fnExactUnhexSpec : ChangeSpec := { name := "fnExactUnhex", fn := fun _ => fun
  | [d] => { results := [.lit (.bool true)], args := [d] }
  | _ => none }
def fnExactUnhexRow : OpenClaim := { program := "ytkmbefadmoidbaa", sum := "a809ef1fbe83a1ca8d84c6f561b4e15275de9b3f686ed07ea25118b8488b0d2b", func := "loop.example/g00961/laws.FnExactUnhex", spec := "fnExactUnhex", apart := false }
def FnExactUnhexSaid : Prop := fnExactUnhexRow.holds Try.pinned (OpenSpec.ofChange fnExactUnhexSpec)

/-- ITS FALSE NEIGHBOUR: 'it returns false'. Refute it at one input. -/
def fnExactUnhexWrong : ChangeSpec := { name := "fnExactUnhex", fn := fun _ => fun
  | [d] => { results := [.lit (.bool false)], args := [d] }
  | _ => none }
def FnExactUnhexWrongFalsely : Prop := fnExactUnhexRow.holds Try.pinned (OpenSpec.ofChange fnExactUnhexWrong)

/-- 'laws.FnExactParkAt': WHATEVER THE INPUT: true; the input reads as it did. -/
def fnExactParkAtSpec : ChangeSpec := { name := "fnExactParkAt", fn := fun _ => fun
  | [d1, d2] => { results := [.lit (.bool true)], args := [d1, d2] }
  | _ => none }
def fnExactParkAtRow : OpenClaim := { program := "ytkmbefadmoidbaa", sum := "a809ef1fbe83a1ca8d84c6f561b4e15275de9b3f686ed07ea25118b8488b0d2b", func := "loop.example/g00961/laws.FnExactParkAt", spec := "fnExactParkAt", apart := false }
def FnExactParkAtSaid : Prop := fnExactParkAtRow.holds Try.pinned (OpenSpec.ofChange fnExactParkAtSpec)

/-- ITS FALSE NEIGHBOUR: 'it returns false'. Refute it at one input. -/
def fnExactParkAtWrong : ChangeSpec := { name := "fnExactParkAt", fn := fun _ => fun
  | [d1, d2] => { results := [.lit (.bool false)], args := [d1, d2] }
  | _ => none }
def FnExactParkAtWrongFalsely : Prop := fnExactParkAtRow.holds Try.pinned (OpenSpec.ofChange fnExactParkAtWrong)

/-- 'laws.FnExactCellAt': WHATEVER THE INPUT: true; the input reads as it did. -/
def fnExactCellAtSpec : ChangeSpec := { name := "fnExactCellAt", fn := fun _ => fun
  | [d1, d2, d3] => { results := [.lit (.bool true)], args := [d1, d2, d3] }
  | _ => none }
def fnExactCellAtRow : OpenClaim := { program := "ytkmbefadmoidbaa", sum := "a809ef1fbe83a1ca8d84c6f561b4e15275de9b3f686ed07ea25118b8488b0d2b", func := "loop.example/g00961/laws.FnExactCellAt", spec := "fnExactCellAt", apart := false }
def FnExactCellAtSaid : Prop := fnExactCellAtRow.holds Try.pinned (OpenSpec.ofChange fnExactCellAtSpec)

/-- ITS FALSE NEIGHBOUR: 'it returns false'. Refute it at one input. -/
def fnExactCellAtWrong : ChangeSpec := { name := "fnExactCellAt", fn := fun _ => fun
  | [d1, d2, d3] => { results := [.lit (.bool false)], args := [d1, d2, d3] }
  | _ => none }
def FnExactCellAtWrongFalsely : Prop := fnExactCellAtRow.holds Try.pinned (OpenSpec.ofChange fnExactCellAtWrong)

/-- 'laws.FnExactSpotOf': WHATEVER THE INPUT: true; the input reads as it did. -/
def fnExactSpotOfSpec : ChangeSpec := { name := "fnExactSpotOf", fn := fun _ => fun
  | [d1, d2] => { results := [.lit (.bool true)], args := [d1, d2] }
  | _ => none }
def fnExactSpotOfRow : OpenClaim := { program := "ytkmbefadmoidbaa", sum := "a809ef1fbe83a1ca8d84c6f561b4e15275de9b3f686ed07ea25118b8488b0d2b", func := "loop.example/g00961/laws.FnExactSpotOf", spec := "fnExactSpotOf", apart := false }
def FnExactSpotOfSaid : Prop := fnExactSpotOfRow.holds Try.pinned (OpenSpec.ofChange fnExactSpotOfSpec)

/-- ITS FALSE NEIGHBOUR: 'it returns false'. Refute it at one input. -/
def fnExactSpotOfWrong : ChangeSpec := { name := "fnExactSpotOf", fn := fun _ => fun
  | [d1, d2] => { results := [.lit (.bool false)], args := [d1, d2] }
  | _ => none }
def FnExactSpotOfWrongFalsely : Prop := fnExactSpotOfRow.holds Try.pinned (OpenSpec.ofChange fnExactSpotOfWrong)

/-- 'laws.FnExactZoneOf': WHATEVER THE INPUT: true; the input reads as it did. -/
def fnExactZoneOfSpec : ChangeSpec := { name := "fnExactZoneOf", fn := fun _ => fun
  | [d1, d2] => { results := [.lit (.bool true)], args := [d1, d2] }
  | _ => none }
def fnExactZoneOfRow : OpenClaim := { program := "ytkmbefadmoidbaa", sum := "a809ef1fbe83a1ca8d84c6f561b4e15275de9b3f686ed07ea25118b8488b0d2b", func := "loop.example/g00961/laws.FnExactZoneOf", spec := "fnExactZoneOf", apart := false }
def FnExactZoneOfSaid : Prop := fnExactZoneOfRow.holds Try.pinned (OpenSpec.ofChange fnExactZoneOfSpec)

/-- ITS FALSE NEIGHBOUR: 'it returns false'. Refute it at one input. -/
def fnExactZoneOfWrong : ChangeSpec := { name := "fnExactZoneOf", fn := fun _ => fun
  | [d1, d2] => { results := [.lit (.bool false)], args := [d1, d2] }
  | _ => none }
def FnExactZoneOfWrongFalsely : Prop := fnExactZoneOfRow.holds Try.pinned (OpenSpec.ofChange fnExactZoneOfWrong)

/-- 'laws.FnExactPartsOf': WHATEVER THE INPUT: true; the input reads as it did. -/
def fnExactPartsOfSpec : ChangeSpec := { name := "fnExactPartsOf", fn := fun _ => fun
  | [d] => { results := [.lit (.bool true)], args := [d] }
  | _ => none }
def fnExactPartsOfRow : OpenClaim := { program := "ytkmbefadmoidbaa", sum := "a809ef1fbe83a1ca8d84c6f561b4e15275de9b3f686ed07ea25118b8488b0d2b", func := "loop.example/g00961/laws.FnExactPartsOf", spec := "fnExactPartsOf", apart := false }
def FnExactPartsOfSaid : Prop := fnExactPartsOfRow.holds Try.pinned (OpenSpec.ofChange fnExactPartsOfSpec)

/-- ITS FALSE NEIGHBOUR: 'it returns false'. Refute it at one input. -/
def fnExactPartsOfWrong : ChangeSpec := { name := "fnExactPartsOf", fn := fun _ => fun
  | [d] => { results := [.lit (.bool false)], args := [d] }
  | _ => none }
def FnExactPartsOfWrongFalsely : Prop := fnExactPartsOfRow.holds Try.pinned (OpenSpec.ofChange fnExactPartsOfWrong)

/-- 'laws.FnExactFreeCells': WHATEVER THE INPUT: true; the input reads as it did. -/
def fnExactFreeCellsSpec : ChangeSpec := { name := "fnExactFreeCells", fn := fun _ => fun
  | [d] => { results := [.lit (.bool true)], args := [d] }
  | _ => none }
def fnExactFreeCellsRow : OpenClaim := { program := "ytkmbefadmoidbaa", sum := "a809ef1fbe83a1ca8d84c6f561b4e15275de9b3f686ed07ea25118b8488b0d2b", func := "loop.example/g00961/laws.FnExactFreeCells", spec := "fnExactFreeCells", apart := false }
def FnExactFreeCellsSaid : Prop := fnExactFreeCellsRow.holds Try.pinned (OpenSpec.ofChange fnExactFreeCellsSpec)

/-- ITS FALSE NEIGHBOUR: 'it returns false'. Refute it at one input. -/
def fnExactFreeCellsWrong : ChangeSpec := { name := "fnExactFreeCells", fn := fun _ => fun
  | [d] => { results := [.lit (.bool false)], args := [d] }
  | _ => none }
def FnExactFreeCellsWrongFalsely : Prop := fnExactFreeCellsRow.holds Try.pinned (OpenSpec.ofChange fnExactFreeCellsWrong)

/- THE SECOND FORM. 'bulk': how many values and letters a reading holds, each counted each time it is reached (what is shared counts as often as it is met; a slice's spare places count too). A statement '..UptoSaid' is the law's where the arguments, and the package variables that the reading takes, are together of bulk at most 1048576: NARROWER than '..Said'. Prove '..Said' where nothing that the law and all that it calls make is longer than what came in: it says more and counts as full. Else prove '..UptoSaid'. A law counts once. -/
mutual
def uptoBulk {H : Type} : DataW H → Nat
  | .lit (.string bytes) => bytes.length + 1
  | .lit _ => 1
  | .nil => 1
  | .ptr d => uptoBulk d + 1
  | .slice elems spare => uptoBulkAll elems + uptoBulkAll spare + 1
  | .agg parts => uptoBulkAll parts + 1
  | .iface _ d => uptoBulk d + 1
  | .map entries => uptoBulkEntries entries + 1
  | .held _ => 1
def uptoBulkAll {H : Type} : List (DataW H) → Nat
  | [] => 0
  | d :: r => uptoBulk d + uptoBulkAll r
def uptoBulkEntries {H : Type} : List (Lit × DataW H) → Nat
  | [] => 0
  | x :: r => uptoBulkEntry x + uptoBulkEntries r
def uptoBulkEntry {H : Type} : Lit × DataW H → Nat
  | (.string bytes, d) => bytes.length + uptoBulk d + 1
  | (_, d) => uptoBulk d + 1
 end
def uptoSmall : (H : Type) → List (DataW H) → Bool := fun _ ds => decide (uptoBulkAll ds ≤ 1048576)
def OpenSpec.upto (s : _root_.Go.ChangeSpec) : _root_.Go.OpenSpec := { _root_.Go.OpenSpec.ofChange s with cond := some uptoSmall }

/-- 'laws.FnExactConstants', WHERE WHAT IT READS IS OF BULK AT MOST 1048576: true; the input reads as it did. -/
def fnExactConstantsUptoRow : OpenClaim := { program := "ytkmbefadmoidbaa", sum := "a809ef1fbe83a1ca8d84c6f561b4e15275de9b3f686ed07ea25118b8488b0d2b", func := "loop.example/g00961/laws.FnExactConstants", spec := "fnExactConstants", apart := false, narrowed := true }
def FnExactConstantsUptoSaid : Prop := fnExactConstantsUptoRow.holds Try.pinned (OpenSpec.upto fnExactConstantsSpec)

/-- 'laws.FnExactBrought', WHERE WHAT IT READS IS OF BULK AT MOST 1048576: true; the input reads as it did. -/
def fnExactBroughtUptoRow : OpenClaim := { program := "ytkmbefadmoidbaa", sum := "a809ef1fbe83a1ca8d84c6f561b4e15275de9b3f686ed07ea25118b8488b0d2b", func := "loop.example/g00961/laws.FnExactBrought", spec := "fnExactBrought", apart := false, narrowed := true }
def FnExactBroughtUptoSaid : Prop := fnExactBroughtUptoRow.holds Try.pinned (OpenSpec.upto fnExactBroughtSpec)

/-- 'laws.FnExactHex', WHERE WHAT IT READS IS OF BULK AT MOST 1048576: true; the input reads as it did. -/
def fnExactHexUptoRow : OpenClaim := { program := "ytkmbefadmoidbaa", sum := "a809ef1fbe83a1ca8d84c6f561b4e15275de9b3f686ed07ea25118b8488b0d2b", func := "loop.example/g00961/laws.FnExactHex", spec := "fnExactHex", apart := false, narrowed := true }
def FnExactHexUptoSaid : Prop := fnExactHexUptoRow.holds Try.pinned (OpenSpec.upto fnExactHexSpec)

/-- 'laws.FnExactGridOk', WHERE WHAT IT READS IS OF BULK AT MOST 1048576: true; the input reads as it did. -/
def fnExactGridOkUptoRow : OpenClaim := { program := "ytkmbefadmoidbaa", sum := "a809ef1fbe83a1ca8d84c6f561b4e15275de9b3f686ed07ea25118b8488b0d2b", func := "loop.example/g00961/laws.FnExactGridOk", spec := "fnExactGridOk", apart := false, narrowed := true }
def FnExactGridOkUptoSaid : Prop := fnExactGridOkUptoRow.holds Try.pinned (OpenSpec.upto fnExactGridOkSpec)

/-- 'laws.FnExactFreeAt', WHERE WHAT IT READS IS OF BULK AT MOST 1048576: true; the input reads as it did. -/
def fnExactFreeAtUptoRow : OpenClaim := { program := "ytkmbefadmoidbaa", sum := "a809ef1fbe83a1ca8d84c6f561b4e15275de9b3f686ed07ea25118b8488b0d2b", func := "loop.example/g00961/laws.FnExactFreeAt", spec := "fnExactFreeAt", apart := false, narrowed := true }
def FnExactFreeAtUptoSaid : Prop := fnExactFreeAtUptoRow.holds Try.pinned (OpenSpec.upto fnExactFreeAtSpec)

/-- 'laws.FnExactUnhex', WHERE WHAT IT READS IS OF BULK AT MOST 1048576: true; the input reads as it did. -/
def fnExactUnhexUptoRow : OpenClaim := { program := "ytkmbefadmoidbaa", sum := "a809ef1fbe83a1ca8d84c6f561b4e15275de9b3f686ed07ea25118b8488b0d2b", func := "loop.example/g00961/laws.FnExactUnhex", spec := "fnExactUnhex", apart := false, narrowed := true }
def FnExactUnhexUptoSaid : Prop := fnExactUnhexUptoRow.holds Try.pinned (OpenSpec.upto fnExactUnhexSpec)

/-- 'laws.FnExactParkAt', WHERE WHAT IT READS IS OF BULK AT MOST 1048576: true; the input reads as it did. -/
def fnExactParkAtUptoRow : OpenClaim := { program := "ytkmbefadmoidbaa", sum := "a809ef1fbe83a1ca8d84c6f561b4e15275de9b3f686ed07ea25118b8488b0d2b", func := "loop.example/g00961/laws.FnExactParkAt", spec := "fnExactParkAt", apart := false, narrowed := true }
def FnExactParkAtUptoSaid : Prop := fnExactParkAtUptoRow.holds Try.pinned (OpenSpec.upto fnExactParkAtSpec)

/-- 'laws.FnExactCellAt', WHERE WHAT IT READS IS OF BULK AT MOST 1048576: true; the input reads as it did. -/
def fnExactCellAtUptoRow : OpenClaim := { program := "ytkmbefadmoidbaa", sum := "a809ef1fbe83a1ca8d84c6f561b4e15275de9b3f686ed07ea25118b8488b0d2b", func := "loop.example/g00961/laws.FnExactCellAt", spec := "fnExactCellAt", apart := false, narrowed := true }
def FnExactCellAtUptoSaid : Prop := fnExactCellAtUptoRow.holds Try.pinned (OpenSpec.upto fnExactCellAtSpec)

/-- 'laws.FnExactSpotOf', WHERE WHAT IT READS IS OF BULK AT MOST 1048576: true; the input reads as it did. -/
def fnExactSpotOfUptoRow : OpenClaim := { program := "ytkmbefadmoidbaa", sum := "a809ef1fbe83a1ca8d84c6f561b4e15275de9b3f686ed07ea25118b8488b0d2b", func := "loop.example/g00961/laws.FnExactSpotOf", spec := "fnExactSpotOf", apart := false, narrowed := true }
def FnExactSpotOfUptoSaid : Prop := fnExactSpotOfUptoRow.holds Try.pinned (OpenSpec.upto fnExactSpotOfSpec)

/-- 'laws.FnExactZoneOf', WHERE WHAT IT READS IS OF BULK AT MOST 1048576: true; the input reads as it did. -/
def fnExactZoneOfUptoRow : OpenClaim := { program := "ytkmbefadmoidbaa", sum := "a809ef1fbe83a1ca8d84c6f561b4e15275de9b3f686ed07ea25118b8488b0d2b", func := "loop.example/g00961/laws.FnExactZoneOf", spec := "fnExactZoneOf", apart := false, narrowed := true }
def FnExactZoneOfUptoSaid : Prop := fnExactZoneOfUptoRow.holds Try.pinned (OpenSpec.upto fnExactZoneOfSpec)

/-- 'laws.FnExactPartsOf', WHERE WHAT IT READS IS OF BULK AT MOST 1048576: true; the input reads as it did. -/
def fnExactPartsOfUptoRow : OpenClaim := { program := "ytkmbefadmoidbaa", sum := "a809ef1fbe83a1ca8d84c6f561b4e15275de9b3f686ed07ea25118b8488b0d2b", func := "loop.example/g00961/laws.FnExactPartsOf", spec := "fnExactPartsOf", apart := false, narrowed := true }
def FnExactPartsOfUptoSaid : Prop := fnExactPartsOfUptoRow.holds Try.pinned (OpenSpec.upto fnExactPartsOfSpec)

/-- 'laws.FnExactFreeCells', WHERE WHAT IT READS IS OF BULK AT MOST 1048576: true; the input reads as it did. -/
def fnExactFreeCellsUptoRow : OpenClaim := { program := "ytkmbefadmoidbaa", sum := "a809ef1fbe83a1ca8d84c6f561b4e15275de9b3f686ed07ea25118b8488b0d2b", func := "loop.example/g00961/laws.FnExactFreeCells", spec := "fnExactFreeCells", apart := false, narrowed := true }
def FnExactFreeCellsUptoSaid : Prop := fnExactFreeCellsUptoRow.holds Try.pinned (OpenSpec.upto fnExactFreeCellsSpec)

end Rows
end Go.Proofs.Ytkmbefadmoidbaa

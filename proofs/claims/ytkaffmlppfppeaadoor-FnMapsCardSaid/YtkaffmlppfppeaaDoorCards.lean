/-
  DERIVED. GIVEN WITH THE SEED: THE CARDS: each row of YtkaffmlppfppeaaDoorRows.lean that lists a variable, with what it lists TIED to the program's text (the seventh form; the later family's looks); each row that meets fmt, with fmt's text TOLD by the authors' own Lean function (tested against real Go, not proved from fmt's source: count such statements apart). THE CARD IS WHAT COUNTS. Prove the row's statement (the work); the ties are given (YtkaffmlppfppeaaDoorTie.lean); close each card by the builder's one call (the guide's Derived/Test/ToyasCard.lean, 'card_holds'). Laid BY PROGRAM, IN A SANDBOX (cutbox-door.mjs). By AI agents, Wed Nov 11 2026. No macro, syntax, notation, axiom, sorry.
-/
import Derived.Test.YtkaffmlppfppeaaDoorRows
import GoSem.ClaimSeven
namespace Go.Proofs.YtkaffmlppfppeaaDoor
namespace Rows

/-- THE TIED CARD OF 'laws.FnExactDecimal'. -/
def fnExactDecimalCard : Claim7 := { stood := { row := fnExactDecimalRow, standIns := [], harness := (true, "6f541cb8379fbecaf54bc7dd8b615b59ad198ace1dd5013305802e52c6eab759"), looks := true }, kinds := [], alts := [], laidByText := true, laidKinds := [.data, .data, .data], laidTests := true, laidLooks := .later }
def FnExactDecimalCardSaid : Prop := Claim7.holds Tryd.pinned (.plain (OpenSpec.ofChange fnExactDecimalSpec)) fnExactDecimalCard

/-- THE TIED CARD OF 'laws.FnExactReadDecimal'. -/
def fnExactReadDecimalCard : Claim7 := { stood := { row := fnExactReadDecimalRow, standIns := [], harness := (true, "6f541cb8379fbecaf54bc7dd8b615b59ad198ace1dd5013305802e52c6eab759"), looks := true }, kinds := [], alts := [], laidByText := true, laidKinds := [.data, .data, .data, .sentinel, .sentinel], laidTests := true, laidLooks := .later }
def FnExactReadDecimalCardSaid : Prop := Claim7.holds Tryd.pinned (.plain (OpenSpec.ofChange fnExactReadDecimalSpec)) fnExactReadDecimalCard

/-- THE TIED CARD OF 'laws.FnFigures'. -/
def fnFiguresCard : Claim7 := { stood := { row := fnFiguresRow, standIns := [], harness := (true, "6f541cb8379fbecaf54bc7dd8b615b59ad198ace1dd5013305802e52c6eab759"), looks := true }, kinds := [], alts := [], laidByText := true, laidKinds := [.data, .data, .data, .sentinel, .sentinel], laidTests := true, laidLooks := .later }
def FnFiguresCardSaid : Prop := Claim7.holds Tryd.pinned (.plain (OpenSpec.ofChange fnFiguresSpec)) fnFiguresCard

/-- THE TIED CARD OF 'laws.FnExactGridText'. -/
def fnExactGridTextCard : Claim7 := { stood := { row := fnExactGridTextRow, standIns := [], harness := (true, "6f541cb8379fbecaf54bc7dd8b615b59ad198ace1dd5013305802e52c6eab759"), looks := true }, kinds := [], alts := [], laidByText := true, laidKinds := [.data, .data, .data], laidTests := true, laidLooks := .later }
def FnExactGridTextCardSaid : Prop := Claim7.holds Tryd.pinned (.plain (OpenSpec.ofChange fnExactGridTextSpec)) fnExactGridTextCard

/-- THE TIED CARD OF 'laws.FnExactReadGrid'. -/
def fnExactReadGridCard : Claim7 := { stood := { row := fnExactReadGridRow, standIns := [], harness := (true, "6f541cb8379fbecaf54bc7dd8b615b59ad198ace1dd5013305802e52c6eab759"), looks := true }, kinds := [], alts := [], laidByText := true, laidKinds := [.data, .data, .data, .data, .sentinel, .sentinel, .pinned], laidTests := true, laidLooks := .later }
def FnExactReadGridCardSaid : Prop := Claim7.holds Tryd.pinned (.plain (OpenSpec.ofChange fnExactReadGridSpec)) fnExactReadGridCard

/-- THE TIED CARD OF 'laws.FnMaps'. -/
def fnMapsCard : Claim7 := { stood := { row := fnMapsRow, standIns := [], harness := (true, "6f541cb8379fbecaf54bc7dd8b615b59ad198ace1dd5013305802e52c6eab759"), looks := true }, kinds := [], alts := [], laidByText := true, laidKinds := [.data, .data, .data, .data, .sentinel, .sentinel, .pinned], laidTests := true, laidLooks := .later }
def FnMapsCardSaid : Prop := Claim7.holds Tryd.pinned (.plain (OpenSpec.ofChange fnMapsSpec)) fnMapsCard

/-- THE SECOND FORM's CARD OF 'laws.FnExactDecimal'. -/
def fnExactDecimalUptoCard : Claim7 := { stood := { row := fnExactDecimalUptoRow, standIns := [], harness := (true, "6f541cb8379fbecaf54bc7dd8b615b59ad198ace1dd5013305802e52c6eab759"), looks := true }, kinds := [], alts := [], laidByText := true, laidKinds := [.data, .data, .data], laidTests := true, laidLooks := .later }
def FnExactDecimalUptoCardSaid : Prop := Claim7.holds Tryd.pinned (.plain (OpenSpec.upto fnExactDecimalSpec)) fnExactDecimalUptoCard

/-- THE SECOND FORM's CARD OF 'laws.FnExactReadDecimal'. -/
def fnExactReadDecimalUptoCard : Claim7 := { stood := { row := fnExactReadDecimalUptoRow, standIns := [], harness := (true, "6f541cb8379fbecaf54bc7dd8b615b59ad198ace1dd5013305802e52c6eab759"), looks := true }, kinds := [], alts := [], laidByText := true, laidKinds := [.data, .data, .data, .sentinel, .sentinel], laidTests := true, laidLooks := .later }
def FnExactReadDecimalUptoCardSaid : Prop := Claim7.holds Tryd.pinned (.plain (OpenSpec.upto fnExactReadDecimalSpec)) fnExactReadDecimalUptoCard

/-- THE SECOND FORM's CARD OF 'laws.FnFigures'. -/
def fnFiguresUptoCard : Claim7 := { stood := { row := fnFiguresUptoRow, standIns := [], harness := (true, "6f541cb8379fbecaf54bc7dd8b615b59ad198ace1dd5013305802e52c6eab759"), looks := true }, kinds := [], alts := [], laidByText := true, laidKinds := [.data, .data, .data, .sentinel, .sentinel], laidTests := true, laidLooks := .later }
def FnFiguresUptoCardSaid : Prop := Claim7.holds Tryd.pinned (.plain (OpenSpec.upto fnFiguresSpec)) fnFiguresUptoCard

/-- THE SECOND FORM's CARD OF 'laws.FnExactGridText'. -/
def fnExactGridTextUptoCard : Claim7 := { stood := { row := fnExactGridTextUptoRow, standIns := [], harness := (true, "6f541cb8379fbecaf54bc7dd8b615b59ad198ace1dd5013305802e52c6eab759"), looks := true }, kinds := [], alts := [], laidByText := true, laidKinds := [.data, .data, .data], laidTests := true, laidLooks := .later }
def FnExactGridTextUptoCardSaid : Prop := Claim7.holds Tryd.pinned (.plain (OpenSpec.upto fnExactGridTextSpec)) fnExactGridTextUptoCard

/-- THE SECOND FORM's CARD OF 'laws.FnExactReadGrid'. -/
def fnExactReadGridUptoCard : Claim7 := { stood := { row := fnExactReadGridUptoRow, standIns := [], harness := (true, "6f541cb8379fbecaf54bc7dd8b615b59ad198ace1dd5013305802e52c6eab759"), looks := true }, kinds := [], alts := [], laidByText := true, laidKinds := [.data, .data, .data, .data, .sentinel, .sentinel, .pinned], laidTests := true, laidLooks := .later }
def FnExactReadGridUptoCardSaid : Prop := Claim7.holds Tryd.pinned (.plain (OpenSpec.upto fnExactReadGridSpec)) fnExactReadGridUptoCard

/-- THE SECOND FORM's CARD OF 'laws.FnMaps'. -/
def fnMapsUptoCard : Claim7 := { stood := { row := fnMapsUptoRow, standIns := [], harness := (true, "6f541cb8379fbecaf54bc7dd8b615b59ad198ace1dd5013305802e52c6eab759"), looks := true }, kinds := [], alts := [], laidByText := true, laidKinds := [.data, .data, .data, .data, .sentinel, .sentinel, .pinned], laidTests := true, laidLooks := .later }
def FnMapsUptoCardSaid : Prop := Claim7.holds Tryd.pinned (.plain (OpenSpec.upto fnMapsSpec)) fnMapsUptoCard
end Rows
end Go.Proofs.YtkaffmlppfppeaaDoor

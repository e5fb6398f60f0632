-- The print's words, without those that this seat's laws do not use (wip/slimw.py).
import Derived.Test.YtkaffmlppfppeaaDoorWTab
/-! ### 56. Four, five, six operations that may come up next, in any order -/
namespace Go.Proofs.YtkaffmlppfppeaaDoorW.PrintLast
section
variable {P : Program} {ops : Array Oper} {Q : Exit → Act → World → Prop} {md : Region.Mode} {S : World → Prop} {ds : List Nat} {T : Bool × List (List Nat × List Nat)}
end
end Go.Proofs.YtkaffmlppfppeaaDoorW.PrintLast

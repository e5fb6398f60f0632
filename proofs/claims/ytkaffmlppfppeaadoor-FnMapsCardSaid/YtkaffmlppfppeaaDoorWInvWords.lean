-- The print's words, without those that this seat's laws do not use (wip/slimw.py).
import Derived.Test.YtkaffmlppfppeaaDoorWInv
import Derived.Test.YtkaffmlppfppeaaDoorWFootNe
namespace Go.Proofs.YtkaffmlppfppeaaDoorW.PrintWords
open Go.RowKit
end Go.Proofs.YtkaffmlppfppeaaDoorW.PrintWords
namespace Go.Proofs.YtkaffmlppfppeaaDoorW.PrintLast
section
variable {ops : Array Oper} {a : Act} {o og : Oper} {g : Nat} {t : Tmp} {u : Bool}
end
end Go.Proofs.YtkaffmlppfppeaaDoorW.PrintLast

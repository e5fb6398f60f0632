-- The print's words, without those that this seat's laws do not use (wip/slimw.py).
import Derived.Test.YtgkpgigoonhgdaaWInv
import Derived.Test.YtgkpgigoonhgdaaWFootNe
namespace Go.Proofs.YtgkpgigoonhgdaaW.PrintWords
open Go.RowKit
end Go.Proofs.YtgkpgigoonhgdaaW.PrintWords
namespace Go.Proofs.YtgkpgigoonhgdaaW.PrintLast
section
variable {ops : Array Oper} {a : Act} {o og : Oper} {g : Nat} {t : Tmp} {u : Bool}
end
end Go.Proofs.YtgkpgigoonhgdaaW.PrintLast

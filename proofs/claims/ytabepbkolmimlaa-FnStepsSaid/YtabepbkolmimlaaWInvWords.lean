-- The print's words, without those that this seat's laws do not use (wip/slimw.py).
import Derived.Test.YtabepbkolmimlaaWInv
import Derived.Test.YtabepbkolmimlaaWFootNe
namespace Go.Proofs.YtabepbkolmimlaaW.PrintWords
open Go.RowKit
end Go.Proofs.YtabepbkolmimlaaW.PrintWords
namespace Go.Proofs.YtabepbkolmimlaaW.PrintLast
section
variable {ops : Array Oper} {a : Act} {o og : Oper} {g : Nat} {t : Tmp} {u : Bool}
end
end Go.Proofs.YtabepbkolmimlaaW.PrintLast

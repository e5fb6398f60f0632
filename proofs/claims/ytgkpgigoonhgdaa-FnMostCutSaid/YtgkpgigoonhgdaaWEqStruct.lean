-- The print's words, without those that this seat's laws do not use (wip/slimw.py).
import Derived.Test.YtgkpgigoonhgdaaWWords
import Derived.Laws.StructEq
namespace Go.Proofs.YtgkpgigoonhgdaaW.PrintWords
open Go.RowKit
section
variable {P : Program} {d : Nat} {xs ys : Array Value} {f : Field} {fs : List Field} {a b : Value} {r s : Bool} {w : World}
end
end Go.Proofs.YtgkpgigoonhgdaaW.PrintWords

-- The print's words, without those that this seat's laws do not use (wip/slimw.py).
import Derived.Test.YtgkpgigoonhgdaaWN
namespace Go.Proofs.YtgkpgigoonhgdaaW.PrintWords
open Go.RowKit
namespace Kd
section
variable {α : Type} {d : Kd α} {W : World} {g n : Nat} {S ok : Nat → Prop} {A : Option Addr} {ad : Addr} {xs : List α}
end
end Kd
end Go.Proofs.YtgkpgigoonhgdaaW.PrintWords

-- The print's words, without those that this seat's laws do not use (wip/slimw.py).
import Derived.Test.YtkaffmlppfppeaaDoorWN
/-! ### 52. A row that stays read whatever happens to a block (a set of blocks) doesn't lie there -/
namespace Go.Proofs.YtkaffmlppfppeaaDoorW.PrintWords
open Go.RowKit
namespace Kd
section
variable {α : Type} {d : Kd α} {W : World} {g n : Nat} {S ok : Nat → Prop} {A : Option Addr} {ad : Addr} {xs : List α}
end
end Kd
end Go.Proofs.YtkaffmlppfppeaaDoorW.PrintWords

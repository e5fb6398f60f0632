/- Small lemmas on 64-bit wrap-around, bytes and rounds; no condition. -/
import Derived.RowKit
import Derived.OpenShut
import Derived.Test.YtgkpgigoonhgdaaWWords
import Derived.Test.YtgkpgigoonhgdaaWMore
namespace Go.Proofs.Ytgkpgigoonhgdaa.MBase
open Go.RowKit Go.Proofs.YtgkpgigoonhgdaaW.PrintWords
set_option linter.unusedVariables false

theorem w64 {x : Int} (h0 : -9223372036854775808 ≤ x) (h1 : x ≤ 9223372036854775807) : wrap64 x = x := by unfold wrap64; omega

theorem w64s {x B : Int} (h0 : 0 ≤ x) (h1 : x ≤ B) (hB : B ≤ 1000000000) : wrap64 x = x := by unfold wrap64; omega
theorem lt64 : (64000 : Int) ≤ 1000000000 := by omega
theorem Ev.of_eq {α : Type} {g : Nat → Option α} {r : α} (h : ∀ k, g k = some r) : Ev g r := ⟨0, fun k _ => h k⟩

end Go.Proofs.Ytgkpgigoonhgdaa.MBase

/- A byte's mask and the bytes of a string made of numbers; no condition. -/
import Derived.Test.YtgkpgigoonhgdaaMBase
import Derived.Laws.BitsLemmas
import Derived.Laws.BytesArg
namespace Go.Proofs.Ytgkpgigoonhgdaa.MDraw
open Go.RowKit Go.Proofs.YtgkpgigoonhgdaaW.PrintWords Go.Proofs.Ytgkpgigoonhgdaa.MBase
set_option linter.unusedVariables false

theorem and255 (x : Int) : 0 ≤ bits .and .i64 x 255 ∧ bits .and .i64 x 255 ≤ 255 := by
  have e : (BitVec.ofInt 64 255).toNat = 255 := by decide
  have h0 : bits .and .i64 x 255 = IntKind.i64.wrap (((BitVec.ofInt 64 x &&& BitVec.ofInt 64 255 : BitVec 64).toNat : Nat) : Int) := rfl
  have h := Nat.and_le_right (n := (BitVec.ofInt 64 x).toNat) (m := 255)
  rw [h0, BitVec.toNat_and, e, IntKind.wrap_i64]
  omega

theorem tmod_lt {x n : Int} (h0 : 0 ≤ x) (hn : 0 < n) : 0 ≤ Int.tmod x n ∧ Int.tmod x n < n := by
  rw [Int.tmod_eq_emod_of_nonneg h0]
  exact ⟨Int.emod_nonneg _ (by omega), Int.emod_lt_of_pos _ hn⟩

end Go.Proofs.Ytgkpgigoonhgdaa.MDraw

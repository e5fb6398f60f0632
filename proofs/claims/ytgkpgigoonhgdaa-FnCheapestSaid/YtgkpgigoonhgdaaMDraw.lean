/- A byte's mask and the bytes of a string made of numbers; no condition. -/
import Derived.Test.YtgkpgigoonhgdaaMBase
import Derived.Laws.BitsLemmas
import Derived.Laws.BytesArg
namespace Go.Proofs.Ytgkpgigoonhgdaa.MDraw
open Go.RowKit Go.Proofs.YtgkpgigoonhgdaaW.PrintWords Go.Proofs.Ytgkpgigoonhgdaa.MBase
set_option linter.unusedVariables false

theorem and255 (x : Int) : 0 ≤ bits .and .i64 x 255 ∧ bits .and .i64 x 255 ≤ 255 := by
  have e : (BitVec.ofInt 64 255).toNat = 255 := by decide
  have h0 : bits .and .i64 x 255 = IntKind.i64.wrap (((BitVec.ofInt 64 x &&& BitVec.ofInt 64 255 : BitVec 64).toNat : Nat) : Int) := rfl
  have h := Nat.and_le_right (n := (BitVec.ofInt 64 x).toNat) (m := 255)
  rw [h0, BitVec.toNat_and, e, IntKind.wrap_i64]
  omega

theorem strNums_bt (xs : List Int) (i : Nat) (hi : i < xs.length) (h0 : 0 ≤ xs.getD i 0) (h1 : xs.getD i 0 < 256) : bt (strOfNums xs) i = xs.getD i 0 := by
  have hs := strOfNums_size xs
  unfold bt
  rw [dif_pos (by rw [Int.toNat_natCast, hs]; exact hi)]
  rw [List.getD_eq_getElem?_getD, List.getElem?_eq_getElem hi] at h0 h1 ⊢
  simp only [Option.getD_some] at h0 h1 ⊢
  simp only [strOfNums, Int.toNat_natCast, ByteArray.getElem_eq_getElem_data, List.getElem_toArray, List.getElem_map]
  rw [UInt8.toNat_ofNat_of_lt' (show (xs[i]).toNat < 256 by omega)]
  omega

theorem tmod_lt {x n : Int} (h0 : 0 ≤ x) (hn : 0 < n) : 0 ≤ Int.tmod x n ∧ Int.tmod x n < n := by
  rw [Int.tmod_eq_emod_of_nonneg h0]
  exact ⟨Int.emod_nonneg _ (by omega), Int.emod_lt_of_pos _ hn⟩

theorem getD_mem' {xs : List Int} {j : Nat} (hj : j < xs.length) : xs.getD j 0 ∈ xs := by
  rw [List.getD_eq_getElem?_getD, List.getElem?_eq_getElem hj]
  exact List.getElem_mem hj
end Go.Proofs.Ytgkpgigoonhgdaa.MDraw

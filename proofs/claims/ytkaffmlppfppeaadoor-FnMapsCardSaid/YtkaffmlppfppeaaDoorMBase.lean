/- Small lemmas on 64-bit wrap-around, bytes and rounds; no condition. -/
import Derived.RowKit
import Derived.OpenShut
import Derived.Test.YtkaffmlppfppeaaDoorWWords
import Derived.Test.YtkaffmlppfppeaaDoorWMore
namespace Go.Proofs.YtkaffmlppfppeaaDoor.MBase
open Go.RowKit Go.Proofs.YtkaffmlppfppeaaDoorW.PrintWords
set_option linter.unusedVariables false

theorem w64 {x : Int} (h0 : -9223372036854775808 ≤ x) (h1 : x ≤ 9223372036854775807) : wrap64 x = x := by unfold wrap64; omega

theorem w64s {x B : Int} (h0 : 0 ≤ x) (h1 : x ≤ B) (hB : B ≤ 1000000000) : wrap64 x = x := by unfold wrap64; omega
theorem lt64 : (64000 : Int) ≤ 1000000000 := by omega
theorem lt6400 : (6400000 : Int) ≤ 1000000000 := by omega
theorem lt2000 : (20 * 100 : Int) ≤ 1000000000 := by omega

theorem bt_fin (s : ByteArray) (i : Int) : ∃ n : Fin 256, bt s i = (n.val : Int) := by
  have h := bt_range s i
  exact ⟨⟨(bt s i).toNat, by omega⟩, by simp; omega⟩

theorem Ev.of_eq {α : Type} {g : Nat → Option α} {r : α} (h : ∀ k, g k = some r) : Ev g r := ⟨0, fun k _ => h k⟩

theorem Ev.uniq {α : Type} {g : Nat → Option α} {r r' : α} (h : Ev g r) (h' : Ev g r') : r = r' := by
  obtain ⟨K, h⟩ := h
  obtain ⟨K', h'⟩ := h'
  have a := h (max K K') (by omega)
  have b := h' (max K K') (by omega)
  rw [a] at b
  exact Option.some.inj b

theorem wf64 {x : Int} (h : (Lit.int .i64 x).wf = true) : -9223372036854775808 ≤ x ∧ x ≤ 9223372036854775807 := bounds_i64 h
end Go.Proofs.YtkaffmlppfppeaaDoor.MBase

/- The program's Decimal and ReadDecimal for the printed callers: what they compute is told by the reference's functions; the contracts are those over the library's Itoa and Atoi. -/
import Derived.Test.YtkaffmlppfppeaaDoorDReadWalk
import Derived.Test.YtkaffmlppfppeaaDoorMBld
import Derived.Test.YtkaffmlppfppeaaDoorMStr
import Derived.Test.YtkaffmlppfppeaaDoorPFnMapsx0
namespace Go.Proofs.YtkaffmlppfppeaaDoor.PFnMaps
open Go.RowKit Go.Proofs.YtkaffmlppfppeaaDoorW.PrintWords Go.Proofs.YtkaffmlppfppeaaDoor.DSpec Go.Proofs.YtkaffmlppfppeaaDoor.MReadDecimal

theorem leO_le {α : Type} {f : Nat → Option α} (hm : ∀ k, LeO (f k) (f (k + 1))) {k k' : Nat} (hk : k ≤ k') {x : α} (h : f k = some x) : f k' = some x := by
  induction hk with
  | refl => exact h
  | step _ ih => exact hm _ _ ih
theorem leO_det {α : Type} {f : Nat → Option α} (hm : ∀ k, LeO (f k) (f (k + 1))) {k k' : Nat} {x x' : α} (h : f k = some x) (h' : f k' = some x') : x = x' := by
  have h1 := leO_le hm (Nat.le_max_left k k') h
  rw [leO_le hm (Nat.le_max_right k k') h'] at h1
  exact (Option.some.inj h1).symm

theorem laid_tab {w : World} (h : Laid w) : Lib.TabIs Tryd.prog w "internal/strconv.uint64pow10" .u64 Lib.pow10Tab := h.1
def InR (a : Int) : Prop := -9223372036854775808 ≤ a ∧ a ≤ 9223372036854775807
theorem inR_wrap (a : Int) : InR (wrap64 a) := by unfold InR wrap64; omega

def impl_Decimal.f (k : Nat) (a0 : Int) : Option (ByteArray) := (spec_Decimal.f k a0).bind fun t129 => (some t129)
theorem impl_Decimal.mono (a0 : Int) (k : Nat) : LeO (impl_Decimal.f k a0) (impl_Decimal.f (k + 1) a0) := by
  unfold impl_Decimal.f
  exact LeO.bind (spec_Decimal.mono _ _) (fun _ => LeO.refl _)
theorem impl_Decimal.itoa {k : Nat} {a0 : Int} {r : ByteArray} (hr : InR a0) (h : impl_Decimal.f k a0 = some r) : r = ⟨(Lib.itoa a0).toArray⟩ := by
  have h1 : impl_Decimal.f 41 a0 = some ⟨(Lib.itoa a0).toArray⟩ := by
    unfold impl_Decimal.f
    rw [MDecimal.decimal a0 hr.1 hr.2]
    rfl
  exact leO_det (f := fun k => impl_Decimal.f k a0) (impl_Decimal.mono a0) h h1
theorem impl_Decimal.calls (k : Nat) (a0 : Int) (r : ByteArray) (w0 w : World) (hT : Lib.TabIs Tryd.prog w0 "internal/strconv.uint64pow10" .u64 Lib.pow10Tab) (hr : InR a0) (hB : Below w0.heap.size w0 w) (h : impl_Decimal.f k a0 = some r) :
    Calls Tryd.prog 10 #[.int .i64 a0] w fun e w' => e = .returned (.string r) ∧ Below w.heap.size w w' := by
  rw [impl_Decimal.itoa hr h]
  exact impl_decimal a0 hr.1 hr.2 w (var_below hT hB)

def impl_ReadDecimal.f (k : Nat) (a0 : ByteArray) : Option (Int × Bool) := if a0.size ≤ 281474976710656 then (spec_ReadDecimal.f k a0).bind fun bt145 => (some (bt145.1, bt145.2)) else none
theorem impl_ReadDecimal.mono (a0 : ByteArray) (k : Nat) : LeO (impl_ReadDecimal.f k a0) (impl_ReadDecimal.f (k + 1) a0) := by
  unfold impl_ReadDecimal.f
  exact LeO.ite (LeO.bind (spec_ReadDecimal.mono _ _) (fun _ => LeO.refl _)) (LeO.refl _)
theorem impl_ReadDecimal.is {k : Nat} {a0 : ByteArray} {r : Int × Bool} (h : impl_ReadDecimal.f k a0 = some r) : a0.size ≤ 281474976710656 ∧ Is a0.data.toList r := by
  by_cases hs : a0.size ≤ 281474976710656
  · obtain ⟨r', hf, hr⟩ := MReadDecimal.spec a0
    have h1 : impl_ReadDecimal.f 60 a0 = some r' := by
      unfold impl_ReadDecimal.f
      rw [if_pos hs, hf]
      rfl
    rw [leO_det (f := fun k => impl_ReadDecimal.f k a0) (impl_ReadDecimal.mono a0) h h1]
    exact ⟨hs, hr⟩
  · unfold impl_ReadDecimal.f at h
    rw [if_neg hs] at h
    cases h
theorem impl_ReadDecimal.calls (k : Nat) (a0 : ByteArray) (r1 : Int) (r2 : Bool) (w0 w : World) (hL : Laid w0) (hB : Below w0.heap.size w0 w) (h : impl_ReadDecimal.f k a0 = some (r1, r2)) :
    Calls Tryd.prog 12 #[.string a0] w fun e w' => e = .returned (.tuple #[.int .i64 r1, .bool r2]) ∧ Below w.heap.size w w' := by
  obtain ⟨hs, hI⟩ := impl_ReadDecimal.is h
  exact impl_readDecimal a0 hs w (hL.on hB) r1 r2 hI
end Go.Proofs.YtkaffmlppfppeaaDoor.PFnMaps

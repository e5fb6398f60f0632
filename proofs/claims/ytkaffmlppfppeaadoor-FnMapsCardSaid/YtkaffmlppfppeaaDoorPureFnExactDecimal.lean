/- The plain law of FnExactDecimal: the reference's Decimal gives the decimal numeral that the library's Itoa gives. -/
import Derived.Test.YtkaffmlppfppeaaDoorDSpecDecimal
import Derived.Lib.ItoaNum
namespace Go.Proofs.YtkaffmlppfppeaaDoor.MDecimal
open Go.RowKit Go.Proofs.YtkaffmlppfppeaaDoorW.PrintWords Go.Proofs.YtkaffmlppfppeaaDoor.DSpec

theorem w64 {x : Int} (h0 : -9223372036854775808 ≤ x) (h1 : x ≤ 9223372036854775807) : wrap64 x = x := by unfold wrap64; omega

def digs (u : Nat) : List UInt8 := if u = 0 then [] else Lib.decDigits u
theorem digs_pos {u : Nat} (h : u ≠ 0) : digs u = digs (u / 10) ++ [UInt8.ofNat (48 + u % 10)] := by
  unfold digs
  rw [if_neg h, Lib.decDigits]
  by_cases h10 : u < 10
  · rw [dif_pos h10, if_pos (by omega), Nat.mod_eq_of_lt h10]; rfl
  · rw [dif_neg h10, if_neg (by omega)]

theorem figure {d : Int} (h0 : 0 ≤ d) (h1 : d < 10) : spec_l01Figure.f d = some (48 + d) := by
  unfold spec_l01Figure.f
  rw [if_pos h1, w64 (by omega) (by omega), Int.emod_eq_of_lt (by omega) (by omega)]

theorem tparts (x : Int) (h0 : -9223372036854775808 ≤ x) (h1 : x ≤ 9223372036854775807) :
    wrap64 (Int.tdiv x 10) = Int.tdiv x 10 ∧ (Int.tdiv x 10).natAbs = x.natAbs / 10 ∧ -9223372036854775808 ≤ Int.tdiv x 10 ∧ Int.tdiv x 10 ≤ 9223372036854775807 ∧
      ((Int.tmod x 10 < 0 ∧ wrap64 (-(Int.tmod x 10)) = ((x.natAbs % 10 : Nat) : Int)) ∨ (¬ Int.tmod x 10 < 0 ∧ Int.tmod x 10 = ((x.natAbs % 10 : Nat) : Int))) := by
  rcases Int.le_total 0 x with h | h
  · have e1 := Int.tdiv_eq_ediv_of_nonneg (a := x) (b := 10) h
    have e2 := Int.tmod_eq_emod_of_nonneg (a := x) (b := 10) h
    rw [e1, e2]
    refine ⟨w64 (by omega) (by omega), by omega, by omega, by omega, Or.inr ⟨by omega, by omega⟩⟩
  · obtain ⟨y, rfl⟩ : ∃ y, x = -y := ⟨-x, by omega⟩
    rw [Int.neg_tdiv, Int.neg_tmod]
    have e1 := Int.tdiv_eq_ediv_of_nonneg (a := y) (b := 10) (by omega)
    have e2 := Int.tmod_eq_emod_of_nonneg (a := y) (b := 10) (by omega)
    rw [e1, e2]
    refine ⟨w64 (by omega) (by omega), by omega, by omega, by omega, ?_⟩
    by_cases hm : y % 10 = 0
    · exact Or.inr ⟨by omega, by omega⟩
    · exact Or.inl ⟨by omega, by rw [w64 (by omega) (by omega)]; omega⟩

theorem loop : ∀ (k : Nat) (x : Int) (neg : Bool) (s : ByteArray), x.natAbs < 10 ^ k → s.size + k ≤ 1000 → -9223372036854775808 ≤ x → x ≤ 9223372036854775807 →
    spec_Decimal.l0 (k + 1) x neg s = some ⟨((if neg = true then [45] else []) ++ (digs x.natAbs ++ s.data.toList)).toArray⟩ := by
  have done (k : Nat) (neg : Bool) (s : ByteArray) (hs : s.size ≤ 1000) : spec_Decimal.l0 (k + 1) 0 neg s = some ⟨((if neg = true then [45] else []) ++ (digs (Int.natAbs 0) ++ s.data.toList)).toArray⟩ := by
    unfold spec_Decimal.l0
    rw [if_pos rfl]
    have e : digs (Int.natAbs 0) = [] := rfl
    rw [e]
    cases neg
    · rw [if_neg (by decide), if_neg (by decide)]
      simp
    · rw [if_pos rfl, if_pos rfl, if_pos (by omega)]
      congr 1
  intro k
  induction k with
  | zero =>
    intro x neg s hx hs _ _
    have : x = 0 := by simp at hx; omega
    subst this
    exact done 0 neg s (by omega)
  | succ k ih =>
    intro x neg s hx hs h0 h1
    by_cases hz : x = 0
    · subst hz; exact done (k + 1) neg s (by omega)
    · obtain ⟨e1, e2, b0, b1, hd⟩ := tparts x h0 h1
      have step (d : Int) (hd0 : d = ((x.natAbs % 10 : Nat) : Int)) : ((spec_l01Figure.f d).bind fun t => ((some (([t] : List Int) : List Int)).bind fun y => (if (strOfNums y).size + s.size ≤ 9223372036854775807 then (spec_Decimal.l0 (k + 1) (wrap64 (Int.tdiv x 10)) neg ((strOfNums y) ++ s)) else (none)))) =
          some ⟨((if neg = true then [45] else []) ++ (digs x.natAbs ++ s.data.toList)).toArray⟩ := by
        have hm : x.natAbs % 10 < 10 := Nat.mod_lt _ (by decide)
        rw [figure (by omega) (by omega), Option.bind_some, Option.bind_some]
        have es : (strOfNums [48 + d]) = (⟨#[UInt8.ofNat (48 + x.natAbs % 10)]⟩ : ByteArray) := by
          have e : (48 + d) = ((48 + x.natAbs % 10 : Nat) : Int) := by omega
          rw [e]
          rfl
        rw [es]
        have e3 : (⟨#[UInt8.ofNat (48 + x.natAbs % 10)]⟩ : ByteArray).size = 1 := rfl
        rw [e3, if_pos (by omega), e1, ih _ _ _ (by rw [e2, Nat.pow_succ] at *; omega) (by rw [ByteArray.size_append, e3]; omega) b0 b1]
        congr 2
        rw [e2, digs_pos (u := x.natAbs) (by omega)]
        congr 1
        simp
      rw [spec_Decimal.l0, if_neg hz]
      rcases hd with ⟨c, hd⟩ | ⟨c, hd⟩
      · rw [if_pos c]; exact step _ hd
      · rw [if_neg c]; exact step _ hd

/-- The reference's Decimal at every int. -/
theorem decimal (n : Int) (h0 : -9223372036854775808 ≤ n) (h1 : n ≤ 9223372036854775807) : spec_Decimal.f 41 n = some ⟨(Lib.itoa n).toArray⟩ := by
  unfold spec_Decimal.f
  by_cases hz : n = 0
  · subst hz
    rw [if_pos rfl]
    have e : Lib.itoa 0 = [48] := by
      unfold Lib.itoa
      rw [if_neg (by decide), Lib.decDigits]
      rfl
    rw [e]
  · rw [if_neg hz, loop 40 n _ _ (by have : (10 : Nat) ^ 40 = 10000000000000000000000000000000000000000 := by decide
                                     omega) (by decide) h0 h1]
    congr 2
    unfold Lib.itoa digs
    rw [if_neg (show ¬ n.natAbs = 0 by omega)]
    by_cases c : n < 0
    · rw [if_pos c, if_pos (by simp [c])]
      simp
    · rw [if_neg c, if_neg (by simp [c])]
      have : n.natAbs = n.toNat := by omega
      rw [this]
      simp
end Go.Proofs.YtkaffmlppfppeaaDoor.MDecimal

/- Lists whose elements are set one after the other to numbered marks; no condition. -/
import Derived.Test.YtgkpgigoonhgdaaMBase
namespace Go.Proofs.Ytgkpgigoonhgdaa.MMarks
open Go.RowKit Go.Proofs.YtgkpgigoonhgdaaW.PrintWords Go.Proofs.Ytgkpgigoonhgdaa.MBase
set_option linter.unusedVariables false

def markL {α : Type} (mt : Int → α) : Nat → List α → Int → Int → List α
  | 0, xs, _, _ => xs
  | d + 1, xs, m, i => markL mt d (xs.set i.toNat (mt m)) (m + 1) (i + 1)

theorem markL_length {α : Type} (mt : Int → α) (d : Nat) : ∀ (xs : List α) (m i : Int), (markL mt d xs m i).length = xs.length := by
  induction d with
  | zero => intro xs m i; rfl
  | succ d ih => intro xs m i; rw [markL, ih]; simp

theorem markL_low {α : Type} (mt : Int → α) (e : α) (d : Nat) : ∀ (xs : List α) (m i : Int) (j : Nat), 0 ≤ i → (j : Int) < i → (markL mt d xs m i).getD j e = xs.getD j e := by
  induction d with
  | zero => intro xs m i j h0 h; rfl
  | succ d ih =>
    intro xs m i j h0 h
    rw [markL, ih _ _ _ _ (by omega) (by omega)]
    have : i.toNat ≠ j := by omega
    simp [List.getD_eq_getElem?_getD, List.getElem?_set_ne this]

def Marked {α : Type} (mt : Int → α) (e : α) (ys : List α) (m i : Int) (d : Nat) : Prop := ∀ j : Nat, j < d → ys.getD (i.toNat + j) e = mt (m + j)

theorem markL_marked {α : Type} (mt : Int → α) (e : α) (d : Nat) : ∀ (xs : List α) (m i : Int), 0 ≤ i → i + d = xs.length → Marked mt e (markL mt d xs m i) m i d := by
  induction d with
  | zero => intro xs m i h0 h j hj; omega
  | succ d ih =>
    intro xs m i h0 h j hj
    rw [markL]
    rcases Nat.eq_zero_or_pos j with rfl | hp
    · rw [Nat.add_zero, markL_low _ _ _ _ _ _ _ (by omega) (by omega)]
      have : i.toNat < xs.length := by omega
      simp [List.getD_eq_getElem?_getD, List.getElem?_set_self this]
    · have := ih (xs.set i.toNat (mt m)) (m + 1) (i + 1) (by omega) (by simp; omega) (j - 1) (by omega)
      rw [show (i + 1).toNat + (j - 1) = i.toNat + j by omega] at this
      rw [this]
      congr 1
      omega

theorem Marked.head {α : Type} {mt : Int → α} {e : α} {ys : List α} {m i : Int} {d : Nat} (h : Marked mt e ys m i (d + 1)) : ys.getD i.toNat e = mt m := by
  have := h 0 (by omega)
  simpa using this

theorem Marked.tail {α : Type} {mt : Int → α} {e : α} {ys : List α} {m i : Int} {d : Nat} (h0 : 0 ≤ i) (h : Marked mt e ys m i (d + 1)) : Marked mt e ys (m + 1) (i + 1) d := by
  intro j hj
  have := h (j + 1) (by omega)
  rw [show (i + 1).toNat + j = i.toNat + (j + 1) by omega, this]
  congr 1
  omega
end Go.Proofs.Ytgkpgigoonhgdaa.MMarks

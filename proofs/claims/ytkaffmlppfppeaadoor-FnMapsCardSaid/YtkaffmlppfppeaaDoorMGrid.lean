/- What a grid's bytes say: plain functions on a width, a height and a string; no condition. -/
import Derived.Test.YtkaffmlppfppeaaDoorMBase
namespace Go.Proofs.YtkaffmlppfppeaaDoor.MGrid
open Go.RowKit Go.Proofs.YtkaffmlppfppeaaDoorW.PrintWords Go.Proofs.YtkaffmlppfppeaaDoor.MBase
set_option linter.unusedVariables false

def cellOk (b : Int) : Bool := decide (b = 46 ∨ b = 35 ∨ (97 ≤ b ∧ b ≤ 102) ∨ (65 ≤ b ∧ b ≤ 70))

def cellsOk (c : ByteArray) : Nat → Int → Bool
  | 0, _ => true
  | d + 1, i => cellOk (bt c i) && cellsOk c d (i + 1)

theorem cellsOk_iff (c : ByteArray) (d : Nat) : ∀ i : Int, cellsOk c d i = true ↔ ∀ j : Nat, j < d → cellOk (bt c (i + j)) = true := by
  induction d with
  | zero => intro i; simp [cellsOk]
  | succ d ih =>
    intro i
    rw [cellsOk, Bool.and_eq_true, ih]
    constructor
    · rintro ⟨h1, h2⟩ j hj
      rcases Nat.eq_zero_or_pos j with rfl | hp
      · simpa using h1
      · have := h2 (j - 1) (by omega)
        rw [show i + 1 + ((j - 1 : Nat) : Int) = i + j by omega] at this
        exact this
    · intro h
      refine ⟨by simpa using h 0 (by omega), fun j hj => ?_⟩
      have := h (j + 1) (by omega)
      rw [show i + ((j + 1 : Nat) : Int) = i + 1 + j by omega] at this
      exact this

def sideOk (w h : Int) (c : ByteArray) : Prop := 1 ≤ w ∧ w ≤ 8 ∧ 1 ≤ h ∧ h ≤ 8 ∧ (c.size : Int) = w * h
instance (w h : Int) (c : ByteArray) : Decidable (sideOk w h c) := by unfold sideOk; infer_instance

def gridOk (w h : Int) (c : ByteArray) : Bool := decide (sideOk w h c) && cellsOk c c.size 0

theorem gridOk_side {w h : Int} {c : ByteArray} (g : gridOk w h c = true) : sideOk w h c := by
  unfold gridOk at g
  rw [Bool.and_eq_true] at g
  exact of_decide_eq_true g.1

theorem side_mul {w h : Int} (h1 : 1 ≤ w) (h2 : w ≤ 8) (h3 : 1 ≤ h) (h4 : h ≤ 8) : 1 ≤ w * h ∧ w * h ≤ 64 := by
  have a : w * h ≤ 8 * 8 := Int.mul_le_mul h2 h4 (by omega) (by omega)
  have b : 1 * 1 ≤ w * h := Int.mul_le_mul h1 h3 (by omega) (by omega)
  omega

theorem gridOk_size {w h : Int} {c : ByteArray} (g : gridOk w h c = true) : 1 ≤ c.size ∧ c.size ≤ 64 := by
  obtain ⟨h1, h2, h3, h4, h5⟩ := gridOk_side g
  have := side_mul h1 h2 h3 h4
  omega

theorem gridOk_cell {w h : Int} {c : ByteArray} (g : gridOk w h c = true) {i : Int} (h0 : 0 ≤ i) (h1 : i < c.size) : cellOk (bt c i) = true := by
  unfold gridOk at g
  rw [Bool.and_eq_true, cellsOk_iff] at g
  have := g.2 i.toNat (by omega)
  rwa [show (0 : Int) + i.toNat = i by omega] at this

/-- cell x of a valid grid exists and is free -/
def freeAt (w h : Int) (c : ByteArray) (x : Int) : Bool := gridOk w h c && (decide (0 ≤ x ∧ x < c.size) && decide (bt c x ≠ 35))

theorem freeAt_iff {w h : Int} {c : ByteArray} {x : Int} : freeAt w h c x = true ↔ gridOk w h c = true ∧ 0 ≤ x ∧ x < c.size ∧ bt c x ≠ 35 := by
  unfold freeAt
  simp only [Bool.and_eq_true, decide_eq_true_eq]
  constructor
  · rintro ⟨a, ⟨b, c'⟩, d⟩; exact ⟨a, b, c', d⟩
  · rintro ⟨a, b, c', d⟩; exact ⟨a, ⟨b, c'⟩, d⟩

def parkAt (w h : Int) (c : ByteArray) (x : Int) : Bool := gridOk w h c && (decide (0 ≤ x ∧ x < c.size) && decide (65 ≤ bt c x ∧ bt c x ≤ 70))

def zoneOf (w h : Int) (c : ByteArray) (x : Int) : Int :=
  if gridOk w h c = true ∧ 0 ≤ x ∧ x < c.size then (if 97 ≤ bt c x ∧ bt c x ≤ 102 then bt c x - 97 else if 65 ≤ bt c x ∧ bt c x ≤ 70 then bt c x - 65 else -1) else -1

def cellAt (w h : Int) (c : ByteArray) (x y : Int) : Int := if gridOk w h c = true ∧ 0 ≤ x ∧ x < w ∧ 0 ≤ y ∧ y < h then y * w + x else -1

def spotOf (w h : Int) (c : ByteArray) (x : Int) : Int × Int := if gridOk w h c = true ∧ 0 ≤ x ∧ x < c.size then (x % w, x / w) else (-1, -1)

theorem spot_bounds {w x : Int} (hw : 1 ≤ w) (h8 : w ≤ 8) (h0 : 0 ≤ x) (h1 : x ≤ 64) : 0 ≤ x % w ∧ x % w < w ∧ 0 ≤ x / w ∧ x / w ≤ 64 := by
  refine ⟨Int.emod_nonneg _ (by omega), Int.emod_lt_of_pos _ (by omega), Int.ediv_nonneg h0 (by omega), ?_⟩
  exact Int.le_trans (Int.ediv_le_self w h0) h1

theorem row_bounds {w y : Int} (hw : 1 ≤ w) (h8 : w ≤ 8) (h0 : 0 ≤ y) (h1 : y ≤ 8) : 0 ≤ y * w ∧ y * w ≤ 64 := by
  have a : y * w ≤ 8 * 8 := Int.mul_le_mul h1 h8 (by omega) (by omega)
  have b : 0 ≤ y * w := Int.mul_nonneg h0 (by omega)
  omega

/-- the free cells from i on -/
def freeList (c : ByteArray) : Nat → Int → List Int
  | 0, _ => []
  | d + 1, i => (if bt c i ≠ 35 then [i] else []) ++ freeList c d (i + 1)

theorem freeList_len (c : ByteArray) (d : Nat) : ∀ i : Int, (freeList c d i).length ≤ d := by
  induction d with
  | zero => intro i; exact Nat.le_refl _
  | succ d ih =>
    intro i
    rw [freeList, List.length_append]
    have := ih (i + 1)
    split <;> simp <;> omega

def freeCells (w h : Int) (c : ByteArray) : List Int := if gridOk w h c = true then freeList c c.size 0 else []

theorem freeCells_len (w h : Int) (c : ByteArray) : (freeCells w h c).length ≤ 64 := by
  unfold freeCells
  split
  · rename_i g
    have := freeList_len c c.size 0
    have := gridOk_size g
    omega
  · exact Nat.zero_le _

theorem freeAt_in {w h : Int} {c : ByteArray} (g : gridOk w h c = true) {i : Int} (h0 : 0 ≤ i) (h1 : i < c.size) : freeAt w h c i = decide (bt c i ≠ 35) := by
  unfold freeAt
  rw [g, decide_eq_true (show 0 ≤ i ∧ i < (c.size : Int) from ⟨h0, h1⟩), Bool.true_and, Bool.true_and]

def addIf (b : Bool) (v : Int) : List Int := if b = true then [v] else []
theorem addIf_len (b : Bool) (v : Int) : (addIf b v).length ≤ 1 := by unfold addIf; split <;> simp

/-- the free neighbours of a free cell: above, left, right, below -/
def around (w h : Int) (c : ByteArray) (x : Int) : List Int :=
  if freeAt w h c x = true then addIf (freeAt w h c (x - w)) (x - w) ++ (addIf (decide (0 < x % w) && freeAt w h c (x - 1)) (x - 1) ++ (addIf (decide (x % w < w - 1) && freeAt w h c (x + 1)) (x + 1) ++ addIf (freeAt w h c (x + w)) (x + w))) else []

theorem around_len (w h : Int) (c : ByteArray) (x : Int) : (around w h c x).length ≤ 4 := by
  unfold around
  split
  · simp only [List.length_append]
    have a := addIf_len (freeAt w h c (x - w)) (x - w)
    have b := addIf_len (decide (0 < x % w) && freeAt w h c (x - 1)) (x - 1)
    have d := addIf_len (decide (x % w < w - 1) && freeAt w h c (x + 1)) (x + 1)
    have e := addIf_len (freeAt w h c (x + w)) (x + w)
    omega
  · exact Nat.zero_le _

theorem freeAt_neg (w h : Int) (c : ByteArray) : freeAt w h c (-1) = false := by
  unfold freeAt
  rw [decide_eq_false (show ¬ (0 ≤ (-1 : Int) ∧ (-1 : Int) < c.size) by omega), Bool.false_and, Bool.and_false]

theorem freeAt_low {w h : Int} {c : ByteArray} {x : Int} (hx : x < 0) : freeAt w h c x = false := by
  unfold freeAt
  rw [decide_eq_false (show ¬ (0 ≤ x ∧ x < c.size) by omega), Bool.false_and, Bool.and_false]

theorem freeAt_high {w h : Int} {c : ByteArray} {x : Int} (hx : (c.size : Int) ≤ x) : freeAt w h c x = false := by
  unfold freeAt
  rw [decide_eq_false (show ¬ (0 ≤ x ∧ x < c.size) by omega), Bool.false_and, Bool.and_false]

/-- column and row of a cell -/
theorem spot_eq {w x : Int} : x = (x / w) * w + x % w := by
  have := Int.emod_add_ediv_mul x w
  omega

theorem spot_row {w h x s : Int} (hw : 1 ≤ w) (h8 : w ≤ 8) (hh : 1 ≤ h) (hh8 : h ≤ 8) (hs : s = w * h) (h0 : 0 ≤ x) (h1 : x < s) : 0 ≤ x % w ∧ x % w < w ∧ 0 ≤ x / w ∧ x / w < h := by
  refine ⟨Int.emod_nonneg _ (by omega), Int.emod_lt_of_pos _ (by omega), Int.ediv_nonneg h0 (by omega), ?_⟩
  apply Int.ediv_lt_of_lt_mul (by omega)
  rw [Int.mul_comm]
  omega

def isPark (w h : Int) (c : ByteArray) (z i : Int) : Bool := parkAt w h c i && decide (zoneOf w h c i = z)

def parkL (w h : Int) (c : ByteArray) (z : Int) : Nat → Int → List Int
  | 0, _ => []
  | d + 1, i => (if isPark w h c z i = true then [i] else []) ++ parkL w h c z d (i + 1)

theorem parkL_len (w h : Int) (c : ByteArray) (z : Int) (d : Nat) : ∀ i : Int, (parkL w h c z d i).length ≤ d := by
  induction d with
  | zero => intro i; exact Nat.le_refl _
  | succ d ih =>
    intro i
    rw [parkL, List.length_append]
    have := ih (i + 1)
    split <;> simp <;> omega

def parksIn (w h : Int) (c : ByteArray) (z : Int) : List Int := if gridOk w h c = true then parkL w h c z c.size 0 else []

theorem parksIn_len (w h : Int) (c : ByteArray) (z : Int) : (parksIn w h c z).length ≤ 64 := by
  unfold parksIn
  split
  · rename_i g
    have := parkL_len w h c z c.size 0
    have := gridOk_size g
    omega
  · exact Nat.zero_le _

theorem parkL_filter (w h : Int) (c : ByteArray) (z : Int) (d : Nat) : ∀ i : Int, (freeList c d i).filter (isPark w h c z) = parkL w h c z d i := by
  induction d with
  | zero => intro i; rfl
  | succ d ih =>
    intro i
    rw [freeList, parkL, List.filter_append, ih]
    congr 1
    by_cases hb : bt c i ≠ 35
    · rw [if_pos hb]
      cases hp : isPark w h c z i <;> simp [hp]
    · rw [if_neg hb]
      have : isPark w h c z i = false := by
        unfold isPark parkAt
        rw [decide_eq_false (show ¬ (65 ≤ bt c i ∧ bt c i ≤ 70) by omega)]
        simp
      rw [this]
      rfl
end Go.Proofs.YtkaffmlppfppeaaDoor.MGrid

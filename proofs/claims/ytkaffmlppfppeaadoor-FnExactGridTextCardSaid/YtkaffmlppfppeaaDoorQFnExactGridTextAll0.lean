/- What the functions that the law FnExactGridText reaches compute: Conv, TextL, GridOkS, TextS, GridOkI, TextI. -/
import Derived.Test.YtkaffmlppfppeaaDoorPFnExactGridTextx
import Derived.Test.YtkaffmlppfppeaaDoorMBase
import Derived.Test.YtkaffmlppfppeaaDoorMGrid
import Derived.Test.YtkaffmlppfppeaaDoorMLists
namespace Go.Proofs.YtkaffmlppfppeaaDoor.QFnExactGridText
open Go.RowKit Go.Proofs.YtkaffmlppfppeaaDoor.PFnExactGridText Go.Proofs.YtkaffmlppfppeaaDoorW.PrintWords Go.Proofs.YtkaffmlppfppeaaDoorW.PrintLast Go.Proofs.YtkaffmlppfppeaaDoorW.PrintMore Go.Proofs.YtkaffmlppfppeaaDoor.MBase Go.Proofs.YtkaffmlppfppeaaDoor.MGrid Go.Proofs.YtkaffmlppfppeaaDoor.MLists
set_option linter.unusedVariables false
set_option linter.unusedSimpArgs false

/-! szGrid and toGrid -/
theorem szGrid_ev (w h : Int) (c : ByteArray) (hc : c.size ≤ 9223372036854775807) :
    (∃ t, laws_szGrid.f w h c 1048576 = some t ∧ t < 0) ∨ (c.size ≤ 1048576 ∧ ∃ t, laws_szGrid.f w h c 1048576 = some t ∧ ¬ t < 0) := by
  unfold laws_szGrid.f
  rw [w64 (by omega) (by omega)]
  by_cases hb : (1048576 - (c.size : Int)) < 0
  · exact .inl ⟨-1, by rw [if_pos hb], by omega⟩
  · exact .inr ⟨by omega, _, by rw [if_neg hb], hb⟩

/-! the text of a map -/
def dec (n : Int) : ByteArray := ⟨(Lib.itoa n).toArray⟩
theorem dec_one {n : Int} (h0 : 1 ≤ n) (h1 : n ≤ 8) : dec n = ⟨#[UInt8.ofNat (48 + n.toNat)]⟩ := by
  obtain ⟨u, rfl⟩ : ∃ u : Nat, n = u := ⟨n.toNat, by omega⟩
  unfold dec
  rw [Go.Proofs.YtkaffmlppfppeaaDoor.MReadDecimal.itoa_nat, Lib.decDigits, dif_pos (by omega), Int.toNat_natCast]
theorem dec_size {n : Int} (h0 : 1 ≤ n) (h1 : n ≤ 8) : (dec n).size = 1 := by rw [dec_one h0 h1]; rfl
theorem dec_ev {n : Int} (h0 : 1 ≤ n) (h1 : n ≤ 8) : Ev (fun k => Go.Proofs.YtkaffmlppfppeaaDoor.DSpec.spec_Decimal.f k n) (dec n) := ⟨41, fun k hk => Go.Proofs.YtkaffmlppfppeaaDoor.MReadDecimal.decimal_k n (by omega) (by omega) k hk⟩

def headT (a b : ByteArray) : ByteArray := ((((⟨#[104, 101, 105, 103, 104, 116, 32]⟩ : ByteArray) ++ a) ++ (⟨#[10, 119, 105, 100, 116, 104, 32]⟩ : ByteArray)) ++ b) ++ (⟨#[10, 109, 97, 112, 10]⟩ : ByteArray)
def rowT (c : ByteArray) (w y : Int) : ByteArray := c.extract (y * w).toNat (y * w + w).toNat ++ (⟨#[10]⟩ : ByteArray)
def rowsT (c : ByteArray) (w : Int) : Nat → Int → ByteArray
  | 0, _ => ⟨#[]⟩
  | d + 1, y => rowT c w y ++ rowsT c w d (y + 1)
def gridT (w h : Int) (c : ByteArray) : ByteArray := headT (dec h) (dec w) ++ rowsT c w h.toNat 0

theorem size1 : (⟨#[10]⟩ : ByteArray).size = 1 := rfl
theorem size5 : (⟨#[10, 109, 97, 112, 10]⟩ : ByteArray).size = 5 := rfl
theorem size7a : (⟨#[104, 101, 105, 103, 104, 116, 32]⟩ : ByteArray).size = 7 := rfl
theorem size7b : (⟨#[10, 119, 105, 100, 116, 104, 32]⟩ : ByteArray).size = 7 := rfl
theorem head_size (a b : ByteArray) : (headT a b).size = 19 + a.size + b.size := by
  unfold headT
  rw [ByteArray.size_append, ByteArray.size_append, ByteArray.size_append, ByteArray.size_append, size5, size7a, size7b]
  omega
theorem row_size (c : ByteArray) {w y : Int} (hw : 1 ≤ w) (h8 : w ≤ 8) (h0 : 0 ≤ y * w) : (rowT c w y).size ≤ 9 := by
  unfold rowT
  rw [ByteArray.size_append, ByteArray.size_extract, size1]
  omega

/-- where the row y lies in a right map -/
theorem row_in {w h : Int} {c : ByteArray} (g : gridOk w h c = true) {y : Int} (y0 : 0 ≤ y) (yh : y < h) : 0 ≤ y * w ∧ y * w + w ≤ c.size ∧ y * w ≤ 64 ∧ 1 ≤ w ∧ w ≤ 8 ∧ h ≤ 8 := by
  obtain ⟨h1, h2, h3, h4, h5⟩ := gridOk_side g
  have a : 0 ≤ y * w := Int.mul_nonneg y0 (by omega)
  have b : (y + 1) * w ≤ h * w := Int.mul_le_mul_of_nonneg_right (by omega) (by omega)
  have e : (y + 1) * w = y * w + w := by rw [Int.add_mul, Int.one_mul]
  have e2 : h * w = w * h := Int.mul_comm h w
  have sz := (gridOk_size g).2
  omega

/-! spec.GridOk -/
theorem l02Kind_eq (b : Int) : spec_l02Kind.f b = some (cellOk b) := by
  unfold spec_l02Kind.f cellOk
  repeat' split
  all_goals
    congr 1
    first
    | (rw [decide_eq_decide]; omega)
    | (rw [eq_comm, decide_eq_true_eq]; omega)
    | (rw [eq_comm, decide_eq_false_iff_not]; omega)

theorem spec_cells (w h : Int) (c : ByteArray) (hc : c.size ≤ 64) (d : Nat) : ∀ i : Int, 0 ≤ i → i + d = c.size → Ev (fun k => spec_GridOk.l0 k i w h c) (cellsOk c d i) := by
  induction d with
  | zero => intro i h0 h1; exact Ev.step (f := fun _ => some true) (fun k => by rw [spec_GridOk.l0, if_neg (by omega)]) (Ev.now _)
  | succ d ih =>
    intro i h0 h1
    rw [cellsOk]
    cases hk : cellOk (bt c i) with
    | true => exact Ev.step (fun k => by rw [spec_GridOk.l0, if_pos (by omega), if_pos h0, l02Kind_eq, hk, Option.bind_some, if_pos rfl, w64 (by omega) (by omega)]) (ih (i + 1) (by omega) (by omega))
    | false => exact Ev.step (f := fun _ => some false) (fun k => by rw [spec_GridOk.l0, if_pos (by omega), if_pos h0, l02Kind_eq, hk, Option.bind_some, if_neg (by simp)]) (Ev.now _)

theorem sGridOk (w h : Int) (c : ByteArray) : Ev (fun k => spec_GridOk.f k w h c) (gridOk w h c) := by
  have bad : ∀ hn : ¬ sideOk w h c, Ev (fun k => spec_GridOk.j0 k true w h c) (gridOk w h c) := fun hn => by
    have : gridOk w h c = false := by unfold gridOk; rw [decide_eq_false hn]; rfl
    rw [this]
    exact Ev.step (fun k => by rw [spec_GridOk.j0, if_pos rfl]) (Ev.now _)
  by_cases h1' : ¬ w ≥ 1
  · have h1 := h1'
    exact Ev.congr (fun k => by unfold spec_GridOk.f spec_l01In.f; rw [if_neg h1, Option.bind_some, if_neg (by simp)]) (bad (fun hs => h1 hs.1))
  have h1 := Decidable.not_not.mp h1'
  by_cases h2' : ¬ w ≤ 8
  · have h2 := h2'
    exact Ev.congr (fun k => by unfold spec_GridOk.f spec_l01In.f; rw [if_pos h1, Option.bind_some, if_neg (by simpa using h2)]) (bad (fun hs => h2 hs.2.1))
  have h2 := Decidable.not_not.mp h2'
  by_cases h3' : ¬ h ≥ 1
  · have h3 := h3'
    exact Ev.congr (fun k => by unfold spec_GridOk.f spec_l01In.f; rw [if_pos h1, Option.bind_some, if_pos (by simpa using h2), if_neg h3, Option.bind_some, if_neg (by simp)]) (bad (fun hs => h3 hs.2.2.1))
  have h3 := Decidable.not_not.mp h3'
  by_cases h4' : ¬ h ≤ 8
  · have h4 := h4'
    exact Ev.congr (fun k => by unfold spec_GridOk.f spec_l01In.f; rw [if_pos h1, Option.bind_some, if_pos (by simpa using h2), if_pos h3, Option.bind_some, if_neg (by simpa using h4)]) (bad (fun hs => h4 hs.2.2.2.1))
  have h4 := Decidable.not_not.mp h4'
  have hm := side_mul h1 h2 h3 h4
  have hw : wrap64 (w * h) = w * h := w64 (by omega) (by omega)
  refine Ev.congr (fun k => by unfold spec_GridOk.f spec_l01In.f; rw [if_pos h1, Option.bind_some, if_pos (by simpa using h2), if_pos h3, Option.bind_some, if_pos (by simpa using h4), hw]) ?_
  by_cases h5 : (c.size : Int) = w * h
  · have : gridOk w h c = cellsOk c c.size 0 := by unfold gridOk; rw [decide_eq_true (show sideOk w h c from ⟨h1, h2, h3, h4, h5⟩)]; rfl
    rw [this]
    exact Ev.step (fun k => by rw [spec_GridOk.j0, if_neg (by simpa using h5)]) (spec_cells w h c (by omega) c.size 0 (by omega) (by omega))
  · have : ((c.size : Int) != w * h) = true := by simpa using h5
    rw [this]
    exact bad (fun hs => h5 hs.2.2.2.2)

/-! spec.GridText -/
theorem sText_l0 {w h : Int} {c : ByteArray} (g : gridOk w h c = true) (d : Nat) : ∀ (y : Nat) (acc : ByteArray), (y : Int) + d = h → acc.size ≤ 100 + 9 * y → Ev (fun k => spec_GridText.l0 k acc y w h c) (acc ++ rowsT c w d y, true) := by
  induction d with
  | zero =>
    intro y acc hy _
    have e : acc ++ rowsT c w 0 y = acc := ByteArray.append_empty
    rw [e]
    exact Ev.step (f := fun _ => some (acc, true)) (fun k => by rw [spec_GridText.l0, if_neg (by omega)]) (Ev.now _)
  | succ d ih =>
    intro y acc hy hs
    obtain ⟨r0, r1, r2, w1, w8, h8⟩ := row_in g (y := (y : Int)) (by omega) (by omega)
    have hlt : (y : Int) < h := by omega
    have e1 : wrap64 ((y : Int) * w) = (y : Int) * w := w64 (by omega) (by omega)
    have e2 : wrap64 ((y : Int) * w + w) = (y : Int) * w + w := w64 (by omega) (by omega)
    have e3 : wrap64 ((y : Int) + 1) = ((y + 1 : Nat) : Int) := by rw [w64 (by omega) (by omega)]; omega
    have hz := row_size c w1 w8 r0
    have hx : (c.extract ((y : Int) * w).toNat ((y : Int) * w + w).toNat).size + 1 ≤ 9 := by
      unfold rowT at hz
      rw [ByteArray.size_append, size1] at hz
      exact hz
    have hrec := ih (y + 1) (acc ++ rowT c w y) (by omega) (by rw [ByteArray.size_append]; omega)
    have e4 : acc ++ rowsT c w (d + 1) y = (acc ++ rowT c w y) ++ rowsT c w d ((y + 1 : Nat) : Int) := by
      have : rowsT c w (d + 1) y = rowT c w y ++ rowsT c w d ((y : Int) + 1) := rfl
      rw [this, ByteArray.append_assoc]
      rfl
    have e5 : acc ++ rowT c w y = (acc ++ c.extract ((y : Int) * w).toNat ((y : Int) * w + w).toNat) ++ (⟨#[10]⟩ : ByteArray) := by
      unfold rowT
      rw [ByteArray.append_assoc]
    rw [e4]
    rw [e5] at hrec ⊢
    refine Ev.step (fun k => ?_) hrec
    rw [spec_GridText.l0, if_pos hlt, e1, if_pos r0, e2, if_pos (by omega), if_pos r1, if_pos (by omega), if_pos (by rw [ByteArray.size_append]; omega), e3]

theorem sText (w h : Int) (c : ByteArray) : Ev (fun k => spec_GridText.f k w h c) (if gridOk w h c = true then (gridT w h c, true) else ((⟨#[]⟩ : ByteArray), false)) := by
  have hg := sGridOk w h c
  cases g : gridOk w h c with
  | false =>
    rw [g] at hg
    rw [if_neg (by simp)]
    exact Ev.bind hg (Ev.of_eq fun k => by rw [if_neg (by simp)])
  | true =>
    rw [g] at hg
    rw [if_pos rfl]
    obtain ⟨h1, h2, h3, h4, h5⟩ := gridOk_side g
    have zh := dec_size h3 h4
    have zw := dec_size h1 h2
    have hl := sText_l0 g h.toNat 0 (headT (dec h) (dec w)) (by omega) (by rw [head_size]; omega)
    rw [show ((0 : Nat) : Int) = 0 from rfl] at hl
    refine Ev.bind hg (Ev.congr (fun k => by rw [if_pos rfl]) (Ev.bind (dec_ev h3 h4) ?_))
    refine Ev.congr (fun k => by rw [if_pos (by omega), if_pos (by rw [ByteArray.size_append, size7a]; omega)]) (Ev.bind (dec_ev h1 h2) ?_)
    exact Ev.congr (fun k => by rw [if_pos (by simp only [ByteArray.size_append, size7a, size7b]; omega), if_pos (by simp only [ByteArray.size_append, size7a, size7b]; omega)]; rfl) hl

/-! impl.GridOk -/
theorem impl_cells (w h : Int) (c : ByteArray) (hc : c.size ≤ 64) (d : Nat) : ∀ i : Int, 0 ≤ i → i + d = c.size → Ev (fun k => impl_GridOk.l0 k i w h c) (cellsOk c d i) := by
  induction d with
  | zero => intro i h0 h1; exact Ev.step (f := fun _ => some true) (fun k => by rw [impl_GridOk.l0, if_neg (by omega)]) (Ev.now _)
  | succ d ih =>
    intro i h0 h1
    rw [cellsOk]
    have hnext := ih (i + 1) (by omega) (by omega)
    have hw : wrap64 (i + 1) = i + 1 := w64 (by omega) (by omega)
    cases hk : cellOk (bt c i) with
    | true =>
      have hk2 := of_decide_eq_true hk
      refine Ev.step (f := fun k => impl_GridOk.l0 k (i + 1) w h c) (fun k => ?_) hnext
      rw [impl_GridOk.l0, if_pos (by omega), if_pos h0, hw]
      repeat' split
      all_goals first | rfl | omega
    | false =>
      have hk2 := of_decide_eq_false hk
      refine Ev.step (f := fun k => some false) (fun k => ?_) (Ev.now _)
      rw [impl_GridOk.l0, if_pos (by omega), if_pos h0, hw]
      repeat' split
      all_goals first | rfl | omega

theorem iGridOk (w h : Int) (c : ByteArray) : Ev (fun k => impl_GridOk.f k w h c) (gridOk w h c) := by
  have bad : ∀ hn : ¬ sideOk w h c, Ev (fun k => impl_GridOk.j0 k true w h c) (gridOk w h c) := fun hn => by
    have : gridOk w h c = false := by unfold gridOk; rw [decide_eq_false hn]; rfl
    rw [this]
    exact Ev.step (fun k => by rw [impl_GridOk.j0, if_pos rfl]) (Ev.now _)
  by_cases h1 : w < 1
  · exact Ev.congr (fun k => by unfold impl_GridOk.f; rw [if_pos h1]) (bad (fun hs => by have := hs.1; omega))
  by_cases h2 : w > 8
  · exact Ev.congr (fun k => by unfold impl_GridOk.f; rw [if_neg h1, if_pos h2]) (bad (fun hs => by have := hs.2.1; omega))
  by_cases h3 : h < 1
  · exact Ev.congr (fun k => by unfold impl_GridOk.f; rw [if_neg h1, if_neg h2, if_pos h3]) (bad (fun hs => by have := hs.2.2.1; omega))
  by_cases h4 : h > 8
  · exact Ev.congr (fun k => by unfold impl_GridOk.f; rw [if_neg h1, if_neg h2, if_neg h3, if_pos h4]) (bad (fun hs => by have := hs.2.2.2.1; omega))
  have hm := side_mul (w := w) (h := h) (by omega) (by omega) (by omega) (by omega)
  have hw : wrap64 (w * h) = w * h := w64 (by omega) (by omega)
  refine Ev.congr (fun k => by unfold impl_GridOk.f; rw [if_neg h1, if_neg h2, if_neg h3, if_neg h4, hw]) ?_
  by_cases h5 : (c.size : Int) = w * h
  · have : gridOk w h c = cellsOk c c.size 0 := by unfold gridOk; rw [decide_eq_true (show sideOk w h c from ⟨by omega, by omega, by omega, by omega, h5⟩)]; rfl
    rw [this]
    exact Ev.step (fun k => by rw [impl_GridOk.j0, if_neg (by simpa using h5)]) (impl_cells w h c (by omega) c.size 0 (by omega) (by omega))
  · have : ((c.size : Int) != w * h) = true := by simpa using h5
    rw [this]
    exact bad (fun hs => h5 hs.2.2.2.2)

/-! impl.GridText -/
theorem iText_l0 {w h : Int} {c : ByteArray} (g : gridOk w h c = true) (d : Nat) : ∀ (y : Nat) (acc : ByteArray), (y : Int) + d = h → acc.size ≤ 100 + 9 * y → Ev (fun k => impl_GridText.l0 k acc y w h c) (acc ++ rowsT c w d y, true) := by
  induction d with
  | zero =>
    intro y acc hy _
    have e : acc ++ rowsT c w 0 y = acc := ByteArray.append_empty
    rw [e]
    exact Ev.step (f := fun _ => some (acc, true)) (fun k => by rw [impl_GridText.l0, if_neg (by omega)]) (Ev.now _)
  | succ d ih =>
    intro y acc hy hs
    obtain ⟨r0, r1, r2, w1, w8, h8⟩ := row_in g (y := (y : Int)) (by omega) (by omega)
    have hlt : (y : Int) < h := by omega
    have e1 : wrap64 ((y : Int) * w) = (y : Int) * w := w64 (by omega) (by omega)
    have e3 : wrap64 ((y : Int) + 1) = ((y + 1 : Nat) : Int) := by rw [w64 (by omega) (by omega)]; omega
    have e2 : wrap64 (((y + 1 : Nat) : Int) * w) = (y : Int) * w + w := by
      have : ((y + 1 : Nat) : Int) * w = (y : Int) * w + w := by rw [show ((y + 1 : Nat) : Int) = (y : Int) + 1 from rfl, Int.add_mul, Int.one_mul]
      rw [this]
      exact w64 (by omega) (by omega)
    have hz := row_size c w1 w8 r0
    have hx : (c.extract ((y : Int) * w).toNat ((y : Int) * w + w).toNat).size + 1 ≤ 9 := by
      unfold rowT at hz
      rw [ByteArray.size_append, size1] at hz
      exact hz
    have hrec := ih (y + 1) (acc ++ rowT c w y) (by omega) (by rw [ByteArray.size_append]; omega)
    have e4 : acc ++ rowsT c w (d + 1) y = (acc ++ rowT c w y) ++ rowsT c w d ((y + 1 : Nat) : Int) := by
      have : rowsT c w (d + 1) y = rowT c w y ++ rowsT c w d ((y : Int) + 1) := rfl
      rw [this, ByteArray.append_assoc]
      rfl
    rw [e4]
    refine Ev.step (fun k => ?_) hrec
    rw [impl_GridText.l0, if_pos hlt, e1, if_pos r0, e3, e2, if_pos (by omega), if_pos r1, if_pos (by omega), if_pos (by rw [ByteArray.size_append, size1]; omega)]
    rfl

theorem iDec_ev {n : Int} (h0 : 1 ≤ n) (h1 : n ≤ 8) : Ev (fun k => impl_Decimal.f k n) (dec n) := Ev.bind (dec_ev h0 h1) (Ev.now _)

theorem iText (w h : Int) (c : ByteArray) : Ev (fun k => impl_GridText.f k w h c) (if gridOk w h c = true then (gridT w h c, true) else ((⟨#[]⟩ : ByteArray), false)) := by
  have hg := iGridOk w h c
  cases g : gridOk w h c with
  | false =>
    rw [g] at hg
    rw [if_neg (by simp)]
    exact Ev.bind hg (Ev.of_eq fun k => by rw [if_neg (by simp)])
  | true =>
    rw [g] at hg
    rw [if_pos rfl]
    obtain ⟨h1, h2, h3, h4, h5⟩ := gridOk_side g
    have zh := dec_size h3 h4
    have zw := dec_size h1 h2
    have hl := iText_l0 g h.toNat 0 (headT (dec h) (dec w)) (by omega) (by rw [head_size]; omega)
    rw [show ((0 : Nat) : Int) = 0 from rfl] at hl
    have e0 : (⟨#[]⟩ : ByteArray) ++ headT (dec h) (dec w) = headT (dec h) (dec w) := ByteArray.empty_append
    rw [← e0] at hl
    have e1 : ((⟨#[]⟩ : ByteArray) ++ headT (dec h) (dec w)) ++ rowsT c w h.toNat 0 = gridT w h c := by rw [e0]; rfl
    rw [e1] at hl
    refine Ev.bind hg (Ev.congr (fun k => by rw [if_pos rfl]) (Ev.bind (iDec_ev h3 h4) ?_))
    refine Ev.congr (fun k => by rw [if_pos (by omega), if_pos (by rw [ByteArray.size_append, size7a]; omega)]) (Ev.bind (iDec_ev h1 h2) ?_)
    exact Ev.congr (fun k => by rw [if_pos (by simp only [ByteArray.size_append, size7a, size7b]; omega), if_pos (by simp only [ByteArray.size_append, size7a, size7b]; omega), if_pos (by simp only [ByteArray.size_append, size7a, size7b, size5]; omega)]; rfl) hl

end Go.Proofs.YtkaffmlppfppeaaDoor.QFnExactGridText

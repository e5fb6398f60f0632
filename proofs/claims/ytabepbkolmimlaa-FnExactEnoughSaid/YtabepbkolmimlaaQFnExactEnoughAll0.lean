/- What the functions that the law FnExactEnough reaches compute: Conv, GridOkI, isFree, AroundI, AroundIA, GridOkS, FreeAtS, CellAtS, SpotOfS, AroundS, Has, StepsFromS. -/
import Derived.Test.YtabepbkolmimlaaPFnExactEnoughx
import Derived.Test.YtabepbkolmimlaaMBase
import Derived.Test.YtabepbkolmimlaaMGrid
import Derived.Test.YtabepbkolmimlaaMLists
import Derived.Test.YtabepbkolmimlaaMSteps
import Derived.Test.YtabepbkolmimlaaMScan
namespace Go.Proofs.Ytabepbkolmimlaa.QFnExactEnough
open Go.RowKit Go.Proofs.Ytabepbkolmimlaa.PFnExactEnough Go.Proofs.YtabepbkolmimlaaW.PrintWords Go.Proofs.YtabepbkolmimlaaW.PrintLast Go.Proofs.YtabepbkolmimlaaW.PrintMore Go.Proofs.Ytabepbkolmimlaa.MBase Go.Proofs.Ytabepbkolmimlaa.MGrid Go.Proofs.Ytabepbkolmimlaa.MLists Go.Proofs.Ytabepbkolmimlaa.MSteps Go.Proofs.Ytabepbkolmimlaa.MScan
set_option linter.unusedVariables false
set_option linter.unusedSimpArgs false

/-! szGrid and toGrid -/
theorem szGrid_ev (w h : Int) (c : ByteArray) (hc : c.size ≤ 9223372036854775807) :
    (∃ t, laws_szGrid.f w h c 1048576 = some t ∧ t < 0) ∨ (c.size ≤ 1048576 ∧ ∃ t, laws_szGrid.f w h c 1048576 = some t ∧ ¬ t < 0) := by
  unfold laws_szGrid.f
  rw [w64 (by omega) (by omega)]
  by_cases hb : (1048576 - (c.size : Int)) < 0
  · exact .inl ⟨-1, by rw [if_pos hb], by omega⟩
  · exact .inr ⟨by omega, _, by rw [if_neg hb], hb⟩

/-! impl.GridOk -/
theorem impl_cells (w h : Int) (c : ByteArray) (hc : c.size ≤ 64) (d : Nat) : ∀ i : Int, 0 ≤ i → i + d = c.size → Ev (fun k => impl_GridOk.l0 k i w h c) (cellsOk c d i) := by
  induction d with
  | zero => intro i h0 h1; exact Ev.step (f := fun _ => some true) (fun k => by rw [impl_GridOk.l0, if_neg (by omega)]) (Ev.now _)
  | succ d ih =>
    intro i h0 h1
    rw [cellsOk]
    have hnext := ih (i + 1) (by omega) (by omega)
    have hw : wrap64 (i + 1) = i + 1 := w64 (by omega) (by omega)
    cases hk : cellOk (bt c i) with
    | true =>
      have hk2 := of_decide_eq_true hk
      refine Ev.step (f := fun k => impl_GridOk.l0 k (i + 1) w h c) (fun k => ?_) hnext
      rw [impl_GridOk.l0, if_pos (by omega), if_pos h0, hw]
      repeat' split
      all_goals first | rfl | omega
    | false =>
      have hk2 := of_decide_eq_false hk
      refine Ev.step (f := fun k => some false) (fun k => ?_) (Ev.now _)
      rw [impl_GridOk.l0, if_pos (by omega), if_pos h0, hw]
      repeat' split
      all_goals first | rfl | omega

theorem iGridOk (w h : Int) (c : ByteArray) : Ev (fun k => impl_GridOk.f k w h c) (gridOk w h c) := by
  have bad : ∀ hn : ¬ sideOk w h c, Ev (fun k => impl_GridOk.j0 k true w h c) (gridOk w h c) := fun hn => by
    have : gridOk w h c = false := by unfold gridOk; rw [decide_eq_false hn]; rfl
    rw [this]
    exact Ev.step (fun k => by rw [impl_GridOk.j0, if_pos rfl]) (Ev.now _)
  by_cases h1 : w < 1
  · exact Ev.congr (fun k => by unfold impl_GridOk.f; rw [if_pos h1]) (bad (fun hs => by have := hs.1; omega))
  by_cases h2 : w > 8
  · exact Ev.congr (fun k => by unfold impl_GridOk.f; rw [if_neg h1, if_pos h2]) (bad (fun hs => by have := hs.2.1; omega))
  by_cases h3 : h < 1
  · exact Ev.congr (fun k => by unfold impl_GridOk.f; rw [if_neg h1, if_neg h2, if_pos h3]) (bad (fun hs => by have := hs.2.2.1; omega))
  by_cases h4 : h > 8
  · exact Ev.congr (fun k => by unfold impl_GridOk.f; rw [if_neg h1, if_neg h2, if_neg h3, if_pos h4]) (bad (fun hs => by have := hs.2.2.2.1; omega))
  have hm := side_mul (w := w) (h := h) (by omega) (by omega) (by omega) (by omega)
  have hw : wrap64 (w * h) = w * h := w64 (by omega) (by omega)
  refine Ev.congr (fun k => by unfold impl_GridOk.f; rw [if_neg h1, if_neg h2, if_neg h3, if_neg h4, hw]) ?_
  by_cases h5 : (c.size : Int) = w * h
  · have : gridOk w h c = cellsOk c c.size 0 := by unfold gridOk; rw [decide_eq_true (show sideOk w h c from ⟨by omega, by omega, by omega, by omega, h5⟩)]; rfl
    rw [this]
    exact Ev.step (fun k => by rw [impl_GridOk.j0, if_neg (by simpa using h5)]) (impl_cells w h c (by omega) c.size 0 (by omega) (by omega))
  · have : ((c.size : Int) != w * h) = true := by simpa using h5
    rw [this]
    exact bad (fun hs => h5 hs.2.2.2.2)

/-! impl.isFree -/
theorem isFree_eq {w h : Int} {c : ByteArray} (g : gridOk w h c = true) (x : Int) : impl_isFree.f w h c x = some (freeAt w h c x) := by
  unfold freeAt impl_isFree.f
  rw [g]
  simp only [Bool.true_and]
  by_cases h0 : x ≥ 0
  · by_cases h1 : x < (c.size : Int)
    · rw [if_pos h0, if_pos h1, if_pos (by omega), decide_eq_true (show 0 ≤ x ∧ x < (c.size : Int) from ⟨h0, h1⟩), Bool.true_and]
      congr 1
      rw [Bool.eq_iff_iff, bne_iff_ne, decide_eq_true_eq]
    · rw [if_pos h0, if_neg h1, decide_eq_false (fun hh : 0 ≤ x ∧ x < (c.size : Int) => h1 hh.2)]
      rfl
  · rw [if_neg h0, decide_eq_false (fun hh : 0 ≤ x ∧ x < (c.size : Int) => h0 hh.1)]
    rfl

/-! impl.around, impl.Around -/
theorem iaround_ev {w h : Int} {c : ByteArray} (g : gridOk w h c = true) {x : Int} (hx0 : -9000000000000000000 ≤ x) (hx1 : x ≤ 9000000000000000000) : Ev (fun k => impl_around.f k w h c x) (around w h c x) := by
  obtain ⟨h1, h2, h3, h4, h5⟩ := gridOk_side g
  have hs := gridOk_size g
  have w1 : wrap64 (x - w) = x - w := w64 (by omega) (by omega)
  have w2 : wrap64 (x - 1) = x - 1 := w64 (by omega) (by omega)
  have w3 : wrap64 (x + 1) = x + 1 := w64 (by omega) (by omega)
  have w4 : wrap64 (x + w) = x + w := w64 (by omega) (by omega)
  have w5 : wrap64 (w - 1) = w - 1 := w64 (by omega) (by omega)
  have hw : ¬ w = 0 := by omega
  unfold around
  cases hf : freeAt w h c x with
  | false => exact Ev.of_eq fun k => by unfold impl_around.f; rw [isFree_eq g, hf, Option.bind_some, if_neg (by simp), if_neg (by simp)]
  | true =>
    rw [if_pos rfl]
    have hx := freeAt_iff.mp hf
    have tm : Int.tmod x w = x % w := Int.tmod_eq_emod_of_nonneg hx.2.1
    have last : ∀ acc : List Int, acc.length ≤ 10 → ∀ b : Bool, Ev (fun k => impl_around.j3 k x acc b w h c) (acc ++ (addIf b (x + 1) ++ addIf (freeAt w h c (x + w)) (x + w))) := fun acc ha b => by
      refine Ev.step (fun k => by rw [impl_around.j3, isFree_eq g, w4, w3]) ?_
      cases b with
      | true =>
        cases hq : freeAt w h c (x + w) with
        | true => exact Ev.of_eq fun k => by rw [if_pos rfl, if_pos (by omega), Option.bind_some, Option.bind_some, if_pos rfl, if_pos (by simp; omega)]; simp [addIf]
        | false => exact Ev.of_eq fun k => by rw [if_pos rfl, if_pos (by omega), Option.bind_some, Option.bind_some, if_neg (by simp)]; simp [addIf]
      | false =>
        cases hq : freeAt w h c (x + w) with
        | true => exact Ev.of_eq fun k => by rw [if_neg (by simp), Option.bind_some, if_pos rfl, if_pos (by omega)]; simp [addIf]
        | false => exact Ev.of_eq fun k => by rw [if_neg (by simp), Option.bind_some, if_neg (by simp)]; simp [addIf]
    have right : ∀ acc : List Int, acc.length ≤ 9 → Ev (fun k => impl_around.j2 k x acc w h c) (acc ++ (addIf (decide (x % w < w - 1) && freeAt w h c (x + 1)) (x + 1) ++ addIf (freeAt w h c (x + w)) (x + w))) := fun acc ha => by
      by_cases hc : x % w < w - 1
      · exact Ev.step (fun k => by rw [impl_around.j2, if_neg hw, tm, w5, if_pos hc, w3, isFree_eq g, Option.bind_some, decide_eq_true hc, Bool.true_and]) (last acc (by omega) _)
      · exact Ev.step (fun k => by rw [impl_around.j2, if_neg hw, tm, w5, if_neg hc, decide_eq_false hc, Bool.false_and]) (last acc (by omega) _)
    have left1 : ∀ acc : List Int, acc.length ≤ 8 → ∀ b : Bool, Ev (fun k => impl_around.j1 k x acc b w h c) (acc ++ (addIf b (x - 1) ++ (addIf (decide (x % w < w - 1) && freeAt w h c (x + 1)) (x + 1) ++ addIf (freeAt w h c (x + w)) (x + w)))) := fun acc ha b => by
      cases b with
      | true =>
        have := right (acc ++ [x - 1]) (by simp; omega)
        rw [List.append_assoc] at this
        exact Ev.step (fun k => by rw [impl_around.j1, if_pos rfl, if_pos (by omega), w2]) this
      | false => exact Ev.step (fun k => by rw [impl_around.j1, if_neg (by simp)]) (right acc (by omega))
    have left : ∀ acc : List Int, acc.length ≤ 8 → Ev (fun k => impl_around.j0 k x acc w h c) (acc ++ (addIf (decide (0 < x % w) && freeAt w h c (x - 1)) (x - 1) ++ (addIf (decide (x % w < w - 1) && freeAt w h c (x + 1)) (x + 1) ++ addIf (freeAt w h c (x + w)) (x + w)))) := fun acc ha => by
      by_cases hc : 0 < x % w
      · exact Ev.step (fun k => by rw [impl_around.j0, if_neg hw, tm, if_pos hc, w2, isFree_eq g, Option.bind_some, decide_eq_true hc, Bool.true_and]) (left1 acc ha _)
      · exact Ev.step (fun k => by rw [impl_around.j0, if_neg hw, tm, if_neg hc, decide_eq_false hc, Bool.false_and]) (left1 acc ha _)
    cases hq : freeAt w h c (x - w) with
    | true =>
      have := left ([] ++ [x - w]) (by simp)
      exact Ev.congr (fun k => by unfold impl_around.f; rw [isFree_eq g, hf, Option.bind_some, if_pos rfl, w1, isFree_eq g, hq, Option.bind_some, if_pos rfl, if_pos (by simp)]) this
    | false =>
      have := left [] (by simp)
      exact Ev.congr (fun k => by unfold impl_around.f; rw [isFree_eq g, hf, Option.bind_some, if_pos rfl, w1, isFree_eq g, hq, Option.bind_some, if_neg (by simp)]) this

/-! impl.Around -/
theorem iaround_any {w h : Int} {c : ByteArray} (g : gridOk w h c = true) (x : Int) (hx0 : -9223372036854775808 ≤ x) (hx1 : x ≤ 9223372036854775807) : Ev (fun k => impl_around.f k w h c x) (around w h c x) := by
  by_cases hb : -9000000000000000000 ≤ x ∧ x ≤ 9000000000000000000
  · exact iaround_ev g hb.1 hb.2
  · have hs := gridOk_size g
    have hf : freeAt w h c x = false := by
      by_cases hn : x < 0
      · exact freeAt_low hn
      · exact freeAt_high (by omega)
    unfold around
    rw [hf, if_neg (by simp)]
    exact Ev.of_eq fun k => by unfold impl_around.f; rw [isFree_eq g, hf, Option.bind_some, if_neg (by simp)]

theorem around_bad {w h : Int} {c : ByteArray} (g : gridOk w h c = false) (x : Int) : around w h c x = [] := by
  unfold around freeAt
  rw [g, Bool.false_and, if_neg (by simp)]

/-! spec.GridOk -/
theorem l02Kind_eq (b : Int) : spec_l02Kind.f b = some (cellOk b) := by
  unfold spec_l02Kind.f cellOk
  repeat' split
  all_goals
    congr 1
    first
    | (rw [decide_eq_decide]; omega)
    | (rw [eq_comm, decide_eq_true_eq]; omega)
    | (rw [eq_comm, decide_eq_false_iff_not]; omega)

theorem spec_cells (w h : Int) (c : ByteArray) (hc : c.size ≤ 64) (d : Nat) : ∀ i : Int, 0 ≤ i → i + d = c.size → Ev (fun k => spec_GridOk.l0 k i w h c) (cellsOk c d i) := by
  induction d with
  | zero => intro i h0 h1; exact Ev.step (f := fun _ => some true) (fun k => by rw [spec_GridOk.l0, if_neg (by omega)]) (Ev.now _)
  | succ d ih =>
    intro i h0 h1
    rw [cellsOk]
    cases hk : cellOk (bt c i) with
    | true => exact Ev.step (fun k => by rw [spec_GridOk.l0, if_pos (by omega), if_pos h0, l02Kind_eq, hk, Option.bind_some, if_pos rfl, w64 (by omega) (by omega)]) (ih (i + 1) (by omega) (by omega))
    | false => exact Ev.step (f := fun _ => some false) (fun k => by rw [spec_GridOk.l0, if_pos (by omega), if_pos h0, l02Kind_eq, hk, Option.bind_some, if_neg (by simp)]) (Ev.now _)

theorem sGridOk (w h : Int) (c : ByteArray) : Ev (fun k => spec_GridOk.f k w h c) (gridOk w h c) := by
  have bad : ∀ hn : ¬ sideOk w h c, Ev (fun k => spec_GridOk.j0 k true w h c) (gridOk w h c) := fun hn => by
    have : gridOk w h c = false := by unfold gridOk; rw [decide_eq_false hn]; rfl
    rw [this]
    exact Ev.step (fun k => by rw [spec_GridOk.j0, if_pos rfl]) (Ev.now _)
  by_cases h1' : ¬ w ≥ 1
  · have h1 := h1'
    exact Ev.congr (fun k => by unfold spec_GridOk.f spec_l01In.f; rw [if_neg h1, Option.bind_some, if_neg (by simp)]) (bad (fun hs => h1 hs.1))
  have h1 := Decidable.not_not.mp h1'
  by_cases h2' : ¬ w ≤ 8
  · have h2 := h2'
    exact Ev.congr (fun k => by unfold spec_GridOk.f spec_l01In.f; rw [if_pos h1, Option.bind_some, if_neg (by simpa using h2)]) (bad (fun hs => h2 hs.2.1))
  have h2 := Decidable.not_not.mp h2'
  by_cases h3' : ¬ h ≥ 1
  · have h3 := h3'
    exact Ev.congr (fun k => by unfold spec_GridOk.f spec_l01In.f; rw [if_pos h1, Option.bind_some, if_pos (by simpa using h2), if_neg h3, Option.bind_some, if_neg (by simp)]) (bad (fun hs => h3 hs.2.2.1))
  have h3 := Decidable.not_not.mp h3'
  by_cases h4' : ¬ h ≤ 8
  · have h4 := h4'
    exact Ev.congr (fun k => by unfold spec_GridOk.f spec_l01In.f; rw [if_pos h1, Option.bind_some, if_pos (by simpa using h2), if_pos h3, Option.bind_some, if_neg (by simpa using h4)]) (bad (fun hs => h4 hs.2.2.2.1))
  have h4 := Decidable.not_not.mp h4'
  have hm := side_mul h1 h2 h3 h4
  have hw : wrap64 (w * h) = w * h := w64 (by omega) (by omega)
  refine Ev.congr (fun k => by unfold spec_GridOk.f spec_l01In.f; rw [if_pos h1, Option.bind_some, if_pos (by simpa using h2), if_pos h3, Option.bind_some, if_pos (by simpa using h4), hw]) ?_
  by_cases h5 : (c.size : Int) = w * h
  · have : gridOk w h c = cellsOk c c.size 0 := by unfold gridOk; rw [decide_eq_true (show sideOk w h c from ⟨h1, h2, h3, h4, h5⟩)]; rfl
    rw [this]
    exact Ev.step (fun k => by rw [spec_GridOk.j0, if_neg (by simpa using h5)]) (spec_cells w h c (by omega) c.size 0 (by omega) (by omega))
  · have : ((c.size : Int) != w * h) = true := by simpa using h5
    rw [this]
    exact bad (fun hs => h5 hs.2.2.2.2)

/-! spec.FreeAt -/
theorem sFreeAt (w h : Int) (c : ByteArray) (x : Int) : Ev (fun k => spec_FreeAt.f k w h c x) (freeAt w h c x) := by
  refine Ev.bind (sGridOk w h c) ?_
  unfold freeAt
  cases hg : gridOk w h c with
  | false => simp only [Bool.false_eq_true, if_false, Bool.false_and]; exact Ev.now _
  | true =>
    simp only [if_true, Bool.true_and]
    by_cases h0 : x ≥ 0
    · by_cases h1 : x < (c.size : Int)
      · refine Ev.of_eq fun k => ?_
        rw [if_pos h0, if_pos h1, if_pos (by omega), decide_eq_true (show 0 ≤ x ∧ x < (c.size : Int) from ⟨h0, h1⟩), Bool.true_and]
        congr 1
        rw [Bool.eq_iff_iff, bne_iff_ne, decide_eq_true_eq]
      · refine Ev.of_eq fun k => ?_
        rw [if_pos h0, if_neg h1, decide_eq_false (fun hh : 0 ≤ x ∧ x < (c.size : Int) => h1 hh.2)]
        rfl
    · refine Ev.of_eq fun k => ?_
      rw [if_neg h0, decide_eq_false (fun hh : 0 ≤ x ∧ x < (c.size : Int) => h0 hh.1)]
      rfl

/-! spec.CellAt -/
theorem sCellAt (w h : Int) (c : ByteArray) (x y : Int) : Ev (fun k => spec_CellAt.f k w h c x y) (cellAt w h c x y) := by
  refine Ev.bind (sGridOk w h c) ?_
  unfold cellAt
  cases hg : gridOk w h c with
  | false =>
    rw [if_neg (by simp)]
    exact Ev.of_eq fun k => by rw [if_neg (by simp)]
  | true =>
    obtain ⟨h1, h2, h3, h4, h5⟩ := gridOk_side hg
    have w1 : wrap64 (w - 1) = w - 1 := w64 (by omega) (by omega)
    have w2 : wrap64 (h - 1) = h - 1 := w64 (by omega) (by omega)
    refine Ev.of_eq fun k => ?_
    rw [if_pos rfl, w1, w2]
    unfold spec_l01In.f
    by_cases a : x ≥ 0
    · rw [if_pos a, Option.bind_some]
      by_cases b : x ≤ w - 1
      · rw [if_pos (decide_eq_true b)]
        by_cases d : y ≥ 0
        · rw [if_pos d, Option.bind_some]
          by_cases e : y ≤ h - 1
          · have hr := row_bounds h1 h2 d (show y ≤ 8 by omega)
            rw [if_pos (decide_eq_true e), if_pos ⟨rfl, a, by omega, d, by omega⟩, w64 (x := y * w) (by omega) (by omega), w64 (by omega) (by omega)]
          · rw [if_neg (by simpa using e), if_neg (by omega)]
        · rw [if_neg d, Option.bind_some, if_neg (by simp), if_neg (by omega)]
      · rw [if_neg (by simpa using b), if_neg (by omega)]
    · rw [if_neg a, Option.bind_some, if_neg (by simp), if_neg (by omega)]

/-! spec.SpotOf -/
theorem sSpotOf (w h : Int) (c : ByteArray) (x : Int) : Ev (fun k => spec_SpotOf.f k w h c x) (spotOf w h c x) := by
  refine Ev.bind (sGridOk w h c) ?_
  unfold spotOf
  cases hg : gridOk w h c with
  | false =>
    rw [if_neg (by simp)]
    exact Ev.of_eq fun k => by rw [if_neg (by simp)]
  | true =>
    obtain ⟨h1, h2, h3, h4, h5⟩ := gridOk_side hg
    have hz := gridOk_size hg
    refine Ev.of_eq fun k => ?_
    rw [if_pos rfl]
    by_cases a : x < 0
    · rw [if_pos a, if_neg (by omega)]
    · rw [if_neg a]
      by_cases b : x ≥ (c.size : Int)
      · rw [if_pos b, if_neg (by omega)]
      · have hr := spot_bounds (x := x) h1 h2 (by omega) (by omega)
        rw [if_neg b, if_neg (by omega), if_pos ⟨rfl, by omega, by omega⟩, Int.tmod_eq_emod_of_nonneg (by omega), Int.tdiv_eq_ediv_of_nonneg (by omega), w64 (by omega) (by omega)]

/-! spec.Around -/
theorem sAround_l0 (w h : Int) (c : ByteArray) (v0 v1 v2 v3 : Int) : Ev (fun k => spec_Around.l0 k [] [v0, v1, v2, v3] 0 w h c) (addIf (freeAt w h c v0) v0 ++ (addIf (freeAt w h c v1) v1 ++ (addIf (freeAt w h c v2) v2 ++ addIf (freeAt w h c v3) v3))) := by
  have round : ∀ (i : Nat) (v : Int) (acc rest : List Int), i < 4 → rd [v0, v1, v2, v3] (i : Int) = v → acc.length ≤ 10 → (∀ acc' : List Int, acc'.length ≤ acc.length + 1 → Ev (fun k => spec_Around.l0 k acc' [v0, v1, v2, v3] ((i + 1 : Nat) : Int) w h c) (acc' ++ rest)) →
      Ev (fun k => spec_Around.l0 k acc [v0, v1, v2, v3] (i : Int) w h c) (acc ++ (addIf (freeAt w h c v) v ++ rest)) := fun i v acc rest hi hv ha hn => by
    have hw : wrap64 ((i : Int) + 1) = ((i + 1 : Nat) : Int) := by rw [w64 (by omega) (by omega)]; omega
    have hl : ([v0, v1, v2, v3] : List Int).length = 4 := rfl
    refine Ev.step (fun k => by rw [spec_Around.l0, if_pos (by omega), if_pos (by omega), if_pos (by rw [hl]; omega), hv, hw]) (Ev.bind (sFreeAt w h c v) ?_)
    cases hq : freeAt w h c v with
    | true =>
      have := hn (acc ++ [v]) (by simp)
      rw [List.append_assoc] at this
      exact Ev.congr (fun k => by rw [if_pos rfl, if_pos (by omega)]) this
    | false => exact Ev.congr (fun k => by rw [if_neg (by simp)]) (hn acc (by omega))
  have h4 : ∀ acc : List Int, Ev (fun k => spec_Around.l0 k acc [v0, v1, v2, v3] ((4 : Nat) : Int) w h c) (acc ++ []) := fun acc => by
    rw [List.append_nil]
    exact Ev.step (f := fun _ => some acc) (fun k => by rw [spec_Around.l0, if_neg (by omega)]) (Ev.now _)
  have := round 0 v0 [] _ (by omega) rfl (by simp) (fun a1 b1 => round 1 v1 a1 _ (by omega) rfl (by simp at b1; omega) (fun a2 b2 => round 2 v2 a2 _ (by omega) rfl (by simp at b1; omega) (fun a3 b3 => round 3 v3 a3 [] (by omega) rfl (by simp at b1; omega) (fun a4 _ => h4 a4))))
  rw [List.append_nil, List.nil_append] at this
  exact this

theorem sAround (w h : Int) (c : ByteArray) (x : Int) : Ev (fun k => spec_Around.f k w h c x) (around w h c x) := by
  unfold around
  refine Ev.congr (fun k => by unfold spec_Around.f; rw [Option.bind_some]) (Ev.bind (sFreeAt w h c x) ?_)
  cases hf : freeAt w h c x with
  | false => exact Ev.of_eq fun k => by rw [if_neg (by simp), if_neg (by simp)]
  | true =>
    rw [if_pos rfl]
    obtain ⟨g, h0, h1, _⟩ := freeAt_iff.mp hf
    obtain ⟨s1, s2, s3, s4, s5⟩ := gridOk_side g
    have hs := gridOk_size g
    obtain ⟨r1, r2, r3, r4⟩ := spot_row s1 s2 s3 s4 s5 h0 h1
    have e := spot_eq (w := w) (x := x)
    have hspot : spotOf w h c x = (x % w, x / w) := by unfold spotOf; rw [if_pos ⟨g, h0, h1⟩]
    have hsp := sSpotOf w h c x
    rw [hspot] at hsp
    refine Ev.congr (fun k => by rw [if_pos rfl]) (Ev.bind hsp ?_)
    have w1 : wrap64 (x / w - 1) = x / w - 1 := w64 (by omega) (by omega)
    have w2 : wrap64 (x % w - 1) = x % w - 1 := w64 (by omega) (by omega)
    have w3 : wrap64 (x % w + 1) = x % w + 1 := w64 (by omega) (by omega)
    have w4 : wrap64 (x / w + 1) = x / w + 1 := w64 (by omega) (by omega)
    dsimp only
    refine Ev.congr (fun k => by rw [w1, w2, w3, w4]) (Ev.bind (sCellAt w h c (x % w) (x / w - 1)) (Ev.bind (sCellAt w h c (x % w - 1) (x / w)) (Ev.bind (sCellAt w h c (x % w + 1) (x / w)) (Ev.bind (sCellAt w h c (x % w) (x / w + 1)) ?_))))
    have m1 : (x / w - 1) * w = (x / w) * w - w := by rw [Int.sub_mul, Int.one_mul]
    have m2 : (x / w + 1) * w = (x / w) * w + w := by rw [Int.add_mul, Int.one_mul]
    have c0 : addIf (freeAt w h c (cellAt w h c (x % w) (x / w - 1))) (cellAt w h c (x % w) (x / w - 1)) = addIf (freeAt w h c (x - w)) (x - w) := by
      unfold cellAt
      by_cases hc : 0 ≤ x / w - 1
      · rw [if_pos ⟨g, r1, r2, hc, by omega⟩, m1, show x / w * w - w + x % w = x - w by omega]
      · rw [if_neg (fun hh => hc hh.2.2.2.1)]
        have hz : x / w = 0 := by omega
        rw [hz, Int.zero_mul] at e
        rw [freeAt_neg, freeAt_low (show x - w < 0 by omega)]
        rfl
    have c1 : addIf (freeAt w h c (cellAt w h c (x % w - 1) (x / w))) (cellAt w h c (x % w - 1) (x / w)) = addIf (decide (0 < x % w) && freeAt w h c (x - 1)) (x - 1) := by
      unfold cellAt
      by_cases hc : 0 < x % w
      · rw [if_pos ⟨g, by omega, by omega, r3, r4⟩, show x / w * w + (x % w - 1) = x - 1 by omega, decide_eq_true hc, Bool.true_and]
      · rw [if_neg (fun hh => hc (by have := hh.2.1; omega)), freeAt_neg, decide_eq_false hc, Bool.false_and]
        rfl
    have c2 : addIf (freeAt w h c (cellAt w h c (x % w + 1) (x / w))) (cellAt w h c (x % w + 1) (x / w)) = addIf (decide (x % w < w - 1) && freeAt w h c (x + 1)) (x + 1) := by
      unfold cellAt
      by_cases hc : x % w < w - 1
      · rw [if_pos ⟨g, by omega, by omega, r3, r4⟩, show x / w * w + (x % w + 1) = x + 1 by omega, decide_eq_true hc, Bool.true_and]
      · rw [if_neg (fun hh => hc (by have := hh.2.2.1; omega)), freeAt_neg, decide_eq_false hc, Bool.false_and]
        rfl
    have c3 : addIf (freeAt w h c (cellAt w h c (x % w) (x / w + 1))) (cellAt w h c (x % w) (x / w + 1)) = addIf (freeAt w h c (x + w)) (x + w) := by
      unfold cellAt
      by_cases hc : x / w + 1 < h
      · rw [if_pos ⟨g, r1, r2, by omega, hc⟩, m2, show x / w * w + w + x % w = x + w by omega]
      · rw [if_neg (fun hh => hc hh.2.2.2.2)]
        have hz : x / w = h - 1 := by omega
        have hm : (h - 1) * w = w * h - w := by rw [Int.sub_mul, Int.one_mul, Int.mul_comm]
        rw [hz, hm] at e
        rw [freeAt_neg, freeAt_high (show (c.size : Int) ≤ x + w by omega)]
        rfl
    have := sAround_l0 w h c (cellAt w h c (x % w) (x / w - 1)) (cellAt w h c (x % w - 1) (x / w)) (cellAt w h c (x % w + 1) (x / w)) (cellAt w h c (x % w) (x / w + 1))
    rw [c0, c1, c2, c3] at this
    exact this

/-! spec.l03Has -/
theorem has_l0 (xs : List Int) (v : Int) (hx : xs.length ≤ 1048576) (d : Nat) : ∀ i : Nat, i + d = xs.length → Ev (fun k => spec_l03Has.l0 k xs v i) ((xs.drop i).contains v) := by
  induction d with
  | zero =>
    intro i h
    have : xs.drop i = [] := List.drop_eq_nil_of_le (by omega)
    rw [this]
    exact Ev.step (f := fun _ => some false) (fun k => by rw [spec_l03Has.l0, if_neg (by omega)]) (Ev.now _)
  | succ d ih =>
    intro i h
    have e : rd xs (i : Int) = xs.getD i 0 := by unfold rd; rw [Int.toNat_natCast]
    have hw : wrap64 ((i : Int) + 1) = ((i + 1 : Nat) : Int) := by rw [w64 (by omega) (by omega)]; omega
    rw [drop_cons xs i 0 (by omega), List.contains_cons]
    by_cases hv : xs.getD i 0 = v
    · rw [beq_iff_eq.mpr hv.symm, Bool.true_or]
      exact Ev.step (f := fun _ => some true) (fun k => by rw [spec_l03Has.l0, if_pos (by omega), if_pos (by omega), e, if_pos hv]) (Ev.now _)
    · rw [beq_eq_false_iff_ne.mpr (fun hh => hv hh.symm), Bool.false_or]
      exact Ev.step (fun k => by rw [spec_l03Has.l0, if_pos (by omega), if_pos (by omega), e, if_neg hv, hw]) (ih (i + 1) (by omega))

theorem has_ev (xs : List Int) (v : Int) (hx : xs.length ≤ 1048576) : Ev (fun k => spec_l03Has.f k xs v) (xs.contains v) := by
  have h0 := has_l0 xs v hx xs.length 0 (Nat.zero_add _)
  rw [List.drop_zero, show ((0 : Nat) : Int) = 0 from rfl] at h0
  exact h0

/-! spec.StepsFrom -/
theorem around_cell {w h : Int} {c : ByteArray} {x y : Int} (hy : y ∈ around w h c x) : Cell c.size y := by
  have one : ∀ {b : Bool} {v : Int}, y ∈ addIf b v → b = true ∧ y = v := by
    intro b v hv
    unfold addIf at hv
    split at hv
    · exact ⟨by assumption, by simpa using hv⟩
    · cases hv
  have fr : freeAt w h c y = true → Cell c.size y := fun hf => by
    have := freeAt_iff.mp hf
    exact ⟨this.2.1, this.2.2.1⟩
  unfold around at hy
  split at hy
  · simp only [List.mem_append] at hy
    rcases hy with h1 | h1 | h1 | h1
    · obtain ⟨a, rfl⟩ := one h1; exact fr a
    · obtain ⟨a, rfl⟩ := one h1; rw [Bool.and_eq_true] at a; exact fr a.2
    · obtain ⟨a, rfl⟩ := one h1; rw [Bool.and_eq_true] at a; exact fr a.2
    · obtain ⟨a, rfl⟩ := one h1; exact fr a
  · cases hy

theorem rdN (xs : List Int) (j : Nat) : rd xs (j : Int) = xs.getD j 0 := by unfold rd; rw [Int.toNat_natCast]

section
variable {w h : Int} {c : ByteArray} {S : Int → Prop}
theorem ss_l4 (hc : c.size ≤ 64) (L x : Nat) (hL : L < c.size) (hx : x < c.size)
    (next : ∀ d, St3 c.size (around w h c) S L ((x + 1 : Nat) : Int) d → ∃ r, Ev (fun k => spec_StepsFrom.l3 k d L ((x + 1 : Nat) : Int) w h c) r ∧ Lab c.size (around w h c) S r) (m : Nat) :
    ∀ (j : Nat) (d : List Int), j + m = (around w h c x).length → St4 c.size (around w h c) S L x j d → ∃ r, Ev (fun k => spec_StepsFrom.l4 k d L x (around w h c x) j w h c) r ∧ Lab c.size (around w h c) S r := by
  have hA : ∀ x, Cell c.size x → ∀ y, y ∈ around w h c x → Cell c.size y := fun x _ y hy => around_cell hy
  have hxc : Cell c.size (x : Int) := ⟨by omega, by omega⟩
  have hlen := around_len w h c x
  have hw1 : wrap64 ((x : Int) + 1) = ((x + 1 : Nat) : Int) := by rw [w64 (by omega) (by omega)]; omega
  have hw2 : wrap64 ((L : Int) + 1) = (L : Int) + 1 := w64 (by omega) (by omega)
  induction m with
  | zero =>
    intro j d hj st
    obtain ⟨r, hr, hl⟩ := next d (st.end_ hA hxc (by omega))
    exact ⟨r, Ev.step (fun k => by rw [spec_StepsFrom.l4, if_neg (by omega), hw1]) hr, hl⟩
  | succ m ih =>
    intro j d hj st
    have hjl : j < (around w h c x).length := by omega
    have hy := around_cell (getD_mem hjl)
    have hd := st.1.1.len
    have hw3 : wrap64 ((j : Int) + 1) = ((j + 1 : Nat) : Int) := by rw [w64 (by omega) (by omega)]; omega
    have y0 := hy.1
    have y1 := hy.2
    by_cases hb : rd d ((around w h c x).getD j 0) < 0
    · obtain ⟨r, hr, hl⟩ := ih (j + 1) _ (by omega) (st.put hA hxc (by omega) hjl hb)
      exact ⟨r, Ev.step (fun k => by rw [spec_StepsFrom.l4, if_pos (by omega), if_pos (by omega), rdN, if_pos y0, if_pos (by rw [hd]; exact y1), if_pos hb, hw2, hw3]) hr, hl⟩
    · obtain ⟨r, hr, hl⟩ := ih (j + 1) _ (by omega) (st.skip hjl (by omega))
      exact ⟨r, Ev.step (fun k => by rw [spec_StepsFrom.l4, if_pos (by omega), if_pos (by omega), rdN, if_pos y0, if_pos (by rw [hd]; exact y1), if_neg hb, hw3]) hr, hl⟩

theorem ss_l3 (hc : c.size ≤ 64) (L : Nat) (hL : L < c.size)
    (next : ∀ d, St2 c.size (around w h c) S ((L + 1 : Nat) : Int) d → ∃ r, Ev (fun k => spec_StepsFrom.l2 k d ((L + 1 : Nat) : Int) w h c) r ∧ Lab c.size (around w h c) S r) (m : Nat) :
    ∀ (x : Nat) (d : List Int), x + m = c.size → St3 c.size (around w h c) S L x d → ∃ r, Ev (fun k => spec_StepsFrom.l3 k d L x w h c) r ∧ Lab c.size (around w h c) S r := by
  have hw2 : wrap64 ((L : Int) + 1) = ((L + 1 : Nat) : Int) := by rw [w64 (by omega) (by omega)]; omega
  induction m with
  | zero =>
    intro x d hx st
    obtain rfl : x = c.size := by omega
    obtain ⟨r, hr, hl⟩ := next d st.end_
    exact ⟨r, Ev.step (fun k => by rw [spec_StepsFrom.l3, if_neg (by omega), hw2]) hr, hl⟩
  | succ m ih =>
    intro x d hx st
    have hd := st.1.len
    have hw3 : wrap64 ((x : Int) + 1) = ((x + 1 : Nat) : Int) := by rw [w64 (by omega) (by omega)]; omega
    by_cases hb : rd d (x : Int) = L
    · obtain ⟨r, hr, hl⟩ := ss_l4 hc L x hL (by omega) (fun d' h' => ih (x + 1) d' (by omega) h') (around w h c x).length 0 d (Nat.zero_add _) ⟨st, hb, fun y hy => by simp at hy⟩
      exact ⟨r, Ev.step (fun k => by rw [spec_StepsFrom.l3, if_pos (by omega), if_pos (by omega), if_pos (by omega), if_pos hb]) (Ev.bind (sAround w h c x) hr), hl⟩
    · obtain ⟨r, hr, hl⟩ := ih (x + 1) d (by omega) (by have := st.skip hb; exact this)
      exact ⟨r, Ev.step (fun k => by rw [spec_StepsFrom.l3, if_pos (by omega), if_pos (by omega), if_pos (by omega), if_neg hb, hw3]) hr, hl⟩

theorem ss_l2 (hc : c.size ≤ 64) (m : Nat) : ∀ (L : Nat) (d : List Int), L + m = c.size → St2 c.size (around w h c) S L d → ∃ r, Ev (fun k => spec_StepsFrom.l2 k d L w h c) r ∧ Lab c.size (around w h c) S r := by
  induction m with
  | zero =>
    intro L d hL st
    obtain rfl : L = c.size := by omega
    exact ⟨d, Ev.step (f := fun _ => some d) (fun k => by rw [spec_StepsFrom.l2, if_neg (by omega)]) (Ev.now _), st.end_⟩
  | succ m ih =>
    intro L d hL st
    obtain ⟨r, hr, hl⟩ := ss_l3 hc L (by omega) (fun d' h' => ih (L + 1) d' (by omega) h') c.size 0 d (Nat.zero_add _) st.start3
    exact ⟨r, Ev.step (fun k => by rw [spec_StepsFrom.l2, if_pos (by omega)]; rfl) hr, hl⟩

/-- the labels at the start -/
def startAt (l : List Int) (i : Nat) : List Int := (List.range i).map (fun j : Nat => if l.contains (j : Int) = true then (0 : Int) else -1)

theorem startAt_rd (l : List Int) (i : Nat) (z : Int) (hz : Cell i z) : rd (startAt l i) z = if l.contains z = true then 0 else -1 := by
  have h0 := hz.1
  have h1 := hz.2
  obtain ⟨j, rfl⟩ := Int.eq_ofNat_of_zero_le h0
  unfold startAt
  rw [rdN, List.getD_eq_getElem?_getD, List.getElem?_map, List.getElem?_range (by omega)]
  rfl

theorem start_base (l : List Int) (n : Nat) (A : Int → List Int) : Base n A (fun z => z ∈ l) (startAt l n) where
  len := by unfold startAt; simp
  lo := by intro z hz; rw [startAt_rd l n z hz]; split <;> omega
  src := by
    intro z hz
    rw [startAt_rd l n z hz, ← List.contains_iff_mem]
    split
    · rename_i h; exact ⟨fun _ => h, fun _ => rfl⟩
    · rename_i h; exact ⟨fun e => by omega, fun e => absurd e h⟩
  pred := by intro z hz; rw [startAt_rd l n z hz]; split <;> omega

theorem ss_l1 (hc : c.size ≤ 64) (l : List Int) (hl : l.length ≤ 1048576) (m : Nat) : ∀ i : Nat, i + m = c.size → ∃ r, Ev (fun k => spec_StepsFrom.l1 k l (startAt l i) i w h c) r ∧ Lab c.size (around w h c) (fun z => z ∈ l) r := by
  induction m with
  | zero =>
    intro i hi
    obtain rfl : i = c.size := by omega
    have hb := start_base l c.size (around w h c)
    obtain ⟨r, hr, hl⟩ := ss_l2 (w := w) (h := h) hc c.size 0 (startAt l c.size) (Nat.zero_add _) ⟨hb, fun z hz => by rw [startAt_rd l _ z hz]; split <;> omega, fun z hz h0 h1 => by omega⟩
    exact ⟨r, Ev.step (fun k => by rw [spec_StepsFrom.l1, if_neg (by omega)]; rfl) hr, hl⟩
  | succ m ih =>
    intro i hi
    obtain ⟨r, hr, hlab⟩ := ih (i + 1) (by omega)
    have hw3 : wrap64 ((i : Int) + 1) = ((i + 1 : Nat) : Int) := by rw [w64 (by omega) (by omega)]; omega
    have hlen : (startAt l i).length = i := by unfold startAt; simp
    have hsucc : startAt l (i + 1) = startAt l i ++ [if l.contains (i : Int) = true then (0 : Int) else -1] := by unfold startAt; rw [List.range_succ, List.map_append]; rfl
    refine ⟨r, Ev.step (fun k => by rw [spec_StepsFrom.l1, if_pos (by omega)]) (Ev.bind (has_ev l i hl) ?_), hlab⟩
    cases hq : l.contains (i : Int) with
    | true =>
      rw [hsucc, hq, if_pos rfl] at hr
      exact Ev.congr (fun k => by rw [if_pos rfl, if_pos (by omega), hw3]) hr
    | false =>
      rw [hsucc, hq, if_neg (by simp)] at hr
      exact Ev.congr (fun k => by rw [if_neg (by simp), if_pos (by omega), hw3]) hr
end

theorem ss_l0 {w h : Int} {c : ByteArray} (hc : c.size ≤ 64) (l : List Int) (hl : l.length ≤ 1048576) (m : Nat) : ∀ i : Nat, i + m = l.length → ((∀ z, z ∈ l.drop i → freeAt w h c z = true) → ∃ r, Ev (fun k => spec_StepsFrom.l0 k l [] i w h c) r ∧ Lab c.size (around w h c) (fun z => z ∈ l) r) ∧ ((¬ ∀ z, z ∈ l.drop i → freeAt w h c z = true) → Ev (fun k => spec_StepsFrom.l0 k l [] i w h c) []) := by
  induction m with
  | zero =>
    intro i hi
    have e : l.drop i = [] := List.drop_eq_nil_of_le (by omega)
    rw [e]
    refine ⟨fun _ => ?_, fun hn => absurd (fun z hz => by cases hz) hn⟩
    obtain ⟨r, hr, hlab⟩ := ss_l1 (w := w) (h := h) hc l hl c.size 0 (Nat.zero_add _)
    exact ⟨r, Ev.step (fun k => by rw [spec_StepsFrom.l0, if_neg (by omega)]; rfl) hr, hlab⟩
  | succ m ih =>
    intro i hi
    have hw3 : wrap64 ((i : Int) + 1) = ((i + 1 : Nat) : Int) := by rw [w64 (by omega) (by omega)]; omega
    have hf := sFreeAt w h c (l.getD i 0)
    rw [drop_cons l i 0 (by omega)]
    cases hq : freeAt w h c (l.getD i 0) with
    | true =>
      rw [hq] at hf
      have ih' := ih (i + 1) (by omega)
      refine ⟨fun hall => ?_, fun hn => ?_⟩
      · obtain ⟨r, hr, hlab⟩ := ih'.1 (fun z hz => hall z (List.mem_cons_of_mem _ hz))
        exact ⟨r, Ev.step (fun k => by rw [spec_StepsFrom.l0, if_pos (by omega), if_pos (by omega), rdN]) (Ev.bind hf (Ev.congr (fun k => by rw [if_pos rfl, hw3]) hr)), hlab⟩
      · have hr := ih'.2 (fun hh => hn (fun z hz => by
          rcases List.mem_cons.1 hz with e | e
          · rw [e]; exact hq
          · exact hh z e))
        exact Ev.step (fun k => by rw [spec_StepsFrom.l0, if_pos (by omega), if_pos (by omega), rdN]) (Ev.bind hf (Ev.congr (fun k => by rw [if_pos rfl, hw3]) hr))
    | false =>
      rw [hq] at hf
      refine ⟨fun hall => ?_, fun hn => ?_⟩
      · have := hall _ (List.mem_cons_self ..)
        rw [hq] at this; cases this
      · exact Ev.step (fun k => by rw [spec_StepsFrom.l0, if_pos (by omega), if_pos (by omega), rdN]) (Ev.bind hf (Ev.of_eq fun k => by rw [if_neg (by simp)]))

/-- what both searches answer -/
def Answer (w h : Int) (c : ByteArray) (l r : List Int) : Prop :=
  (gridOk w h c = true ∧ (∀ z, z ∈ l → freeAt w h c z = true) ∧ Lab c.size (around w h c) (fun z => z ∈ l) r) ∨ (¬ (gridOk w h c = true ∧ ∀ z, z ∈ l → freeAt w h c z = true) ∧ r = [])

theorem Answer.unique {w h : Int} {c : ByteArray} {l r s : List Int} (a : Answer w h c l r) (b : Answer w h c l s) : r = s := by
  rcases a with ⟨a1, a2, a3⟩ | ⟨a1, a2⟩
  · rcases b with ⟨b1, b2, b3⟩ | ⟨b1, b2⟩
    · exact a3.unique b3
    · exact absurd ⟨a1, a2⟩ b1
  · rcases b with ⟨b1, b2, b3⟩ | ⟨b1, b2⟩
    · exact absurd ⟨b1, b2⟩ a1
    · rw [a2, b2]

theorem sStepsFrom (w h : Int) (c : ByteArray) (l : List Int) (hl : l.length ≤ 1048576) : ∃ r, Ev (fun k => spec_StepsFrom.f k w h c l) r ∧ Answer w h c l r := by
  have hg := sGridOk w h c
  cases g : gridOk w h c with
  | false =>
    rw [g] at hg
    exact ⟨[], Ev.congr (fun k => by unfold spec_StepsFrom.f; rw [Option.bind_some]) (Ev.bind hg (Ev.of_eq fun k => by rw [if_neg (by simp)])), .inr ⟨fun hh => absurd (hh.1.symm.trans g) (by simp), rfl⟩⟩
  | true =>
    rw [g] at hg
    have hc := (gridOk_size g).2
    have h0 := ss_l0 (w := w) (h := h) hc l hl l.length 0 (Nat.zero_add _)
    rw [List.drop_zero, show ((0 : Nat) : Int) = 0 from rfl] at h0
    by_cases hall : ∀ z, z ∈ l → freeAt w h c z = true
    · obtain ⟨r, hr, hlab⟩ := h0.1 hall
      exact ⟨r, Ev.congr (fun k => by unfold spec_StepsFrom.f; rw [Option.bind_some]) (Ev.bind hg (Ev.congr (fun k => by rw [if_pos rfl]) hr)), .inl ⟨g, hall, hlab⟩⟩
    · exact ⟨[], Ev.congr (fun k => by unfold spec_StepsFrom.f; rw [Option.bind_some]) (Ev.bind hg (Ev.congr (fun k => by rw [if_pos rfl]) (h0.2 hall))), .inr ⟨fun hh => hall hh.2, rfl⟩⟩

end Go.Proofs.Ytabepbkolmimlaa.QFnExactEnough

/- What the functions that the law FnExactZoneOf reaches compute: Conv, GridOkS, FreeAtS, ZoneOfS, GridOkI, ZoneOfI. -/
import Derived.Test.YtkmbefadmoidbaaPFnExactZoneOfx
import Derived.Test.YtkmbefadmoidbaaMBase
import Derived.Test.YtkmbefadmoidbaaMGrid
namespace Go.Proofs.Ytkmbefadmoidbaa.QFnExactZoneOf
open Go.RowKit Go.Proofs.Ytkmbefadmoidbaa.PFnExactZoneOf Go.Proofs.YtkmbefadmoidbaaW.PrintWords Go.Proofs.YtkmbefadmoidbaaW.PrintLast Go.Proofs.YtkmbefadmoidbaaW.PrintMore Go.Proofs.Ytkmbefadmoidbaa.MBase Go.Proofs.Ytkmbefadmoidbaa.MGrid
set_option linter.unusedVariables false
set_option linter.unusedSimpArgs false

/-! szGrid and toGrid -/
theorem szGrid_ev (w h : Int) (c : ByteArray) (hc : c.size ≤ 9223372036854775807) :
    (∃ t, laws_szGrid.f w h c 1048576 = some t ∧ t < 0) ∨ (c.size ≤ 1048576 ∧ ∃ t, laws_szGrid.f w h c 1048576 = some t ∧ ¬ t < 0) := by
  unfold laws_szGrid.f
  rw [w64 (by omega) (by omega)]
  by_cases hb : (1048576 - (c.size : Int)) < 0
  · exact .inl ⟨-1, by rw [if_pos hb], by omega⟩
  · exact .inr ⟨by omega, _, by rw [if_neg hb], hb⟩

/-! spec.GridOk -/
theorem l02Kind_eq (b : Int) : spec_l02Kind.f b = some (cellOk b) := by
  unfold spec_l02Kind.f cellOk
  repeat' split
  all_goals
    congr 1
    first
    | (rw [decide_eq_decide]; omega)
    | (rw [eq_comm, decide_eq_true_eq]; omega)
    | (rw [eq_comm, decide_eq_false_iff_not]; omega)

theorem spec_cells (w h : Int) (c : ByteArray) (hc : c.size ≤ 64) (d : Nat) : ∀ i : Int, 0 ≤ i → i + d = c.size → Ev (fun k => spec_GridOk.l0 k i w h c) (cellsOk c d i) := by
  induction d with
  | zero => intro i h0 h1; exact Ev.step (f := fun _ => some true) (fun k => by rw [spec_GridOk.l0, if_neg (by omega)]) (Ev.now _)
  | succ d ih =>
    intro i h0 h1
    rw [cellsOk]
    cases hk : cellOk (bt c i) with
    | true => exact Ev.step (fun k => by rw [spec_GridOk.l0, if_pos (by omega), if_pos h0, l02Kind_eq, hk, Option.bind_some, if_pos rfl, w64 (by omega) (by omega)]) (ih (i + 1) (by omega) (by omega))
    | false => exact Ev.step (f := fun _ => some false) (fun k => by rw [spec_GridOk.l0, if_pos (by omega), if_pos h0, l02Kind_eq, hk, Option.bind_some, if_neg (by simp)]) (Ev.now _)

theorem sGridOk (w h : Int) (c : ByteArray) : Ev (fun k => spec_GridOk.f k w h c) (gridOk w h c) := by
  have bad : ∀ hn : ¬ sideOk w h c, Ev (fun k => spec_GridOk.j0 k true w h c) (gridOk w h c) := fun hn => by
    have : gridOk w h c = false := by unfold gridOk; rw [decide_eq_false hn]; rfl
    rw [this]
    exact Ev.step (fun k => by rw [spec_GridOk.j0, if_pos rfl]) (Ev.now _)
  by_cases h1' : ¬ w ≥ 1
  · have h1 := h1'
    exact Ev.congr (fun k => by unfold spec_GridOk.f spec_l01In.f; rw [if_neg h1, Option.bind_some, if_neg (by simp)]) (bad (fun hs => h1 hs.1))
  have h1 := Decidable.not_not.mp h1'
  by_cases h2' : ¬ w ≤ 8
  · have h2 := h2'
    exact Ev.congr (fun k => by unfold spec_GridOk.f spec_l01In.f; rw [if_pos h1, Option.bind_some, if_neg (by simpa using h2)]) (bad (fun hs => h2 hs.2.1))
  have h2 := Decidable.not_not.mp h2'
  by_cases h3' : ¬ h ≥ 1
  · have h3 := h3'
    exact Ev.congr (fun k => by unfold spec_GridOk.f spec_l01In.f; rw [if_pos h1, Option.bind_some, if_pos (by simpa using h2), if_neg h3, Option.bind_some, if_neg (by simp)]) (bad (fun hs => h3 hs.2.2.1))
  have h3 := Decidable.not_not.mp h3'
  by_cases h4' : ¬ h ≤ 8
  · have h4 := h4'
    exact Ev.congr (fun k => by unfold spec_GridOk.f spec_l01In.f; rw [if_pos h1, Option.bind_some, if_pos (by simpa using h2), if_pos h3, Option.bind_some, if_neg (by simpa using h4)]) (bad (fun hs => h4 hs.2.2.2.1))
  have h4 := Decidable.not_not.mp h4'
  have hm := side_mul h1 h2 h3 h4
  have hw : wrap64 (w * h) = w * h := w64 (by omega) (by omega)
  refine Ev.congr (fun k => by unfold spec_GridOk.f spec_l01In.f; rw [if_pos h1, Option.bind_some, if_pos (by simpa using h2), if_pos h3, Option.bind_some, if_pos (by simpa using h4), hw]) ?_
  by_cases h5 : (c.size : Int) = w * h
  · have : gridOk w h c = cellsOk c c.size 0 := by unfold gridOk; rw [decide_eq_true (show sideOk w h c from ⟨h1, h2, h3, h4, h5⟩)]; rfl
    rw [this]
    exact Ev.step (fun k => by rw [spec_GridOk.j0, if_neg (by simpa using h5)]) (spec_cells w h c (by omega) c.size 0 (by omega) (by omega))
  · have : ((c.size : Int) != w * h) = true := by simpa using h5
    rw [this]
    exact bad (fun hs => h5 hs.2.2.2.2)

/-! spec.FreeAt -/
theorem sFreeAt (w h : Int) (c : ByteArray) (x : Int) : Ev (fun k => spec_FreeAt.f k w h c x) (freeAt w h c x) := by
  refine Ev.bind (sGridOk w h c) ?_
  unfold freeAt
  cases hg : gridOk w h c with
  | false => simp only [Bool.false_eq_true, if_false, Bool.false_and]; exact Ev.now _
  | true =>
    simp only [if_true, Bool.true_and]
    by_cases h0 : x ≥ 0
    · by_cases h1 : x < (c.size : Int)
      · refine Ev.of_eq fun k => ?_
        rw [if_pos h0, if_pos h1, if_pos (by omega), decide_eq_true (show 0 ≤ x ∧ x < (c.size : Int) from ⟨h0, h1⟩), Bool.true_and]
        congr 1
        rw [Bool.eq_iff_iff, bne_iff_ne, decide_eq_true_eq]
      · refine Ev.of_eq fun k => ?_
        rw [if_pos h0, if_neg h1, decide_eq_false (fun hh : 0 ≤ x ∧ x < (c.size : Int) => h1 hh.2)]
        rfl
    · refine Ev.of_eq fun k => ?_
      rw [if_neg h0, decide_eq_false (fun hh : 0 ≤ x ∧ x < (c.size : Int) => h0 hh.1)]
      rfl

/-! spec.ZoneOf -/
theorem sZoneOf (w h : Int) (c : ByteArray) (x : Int) : Ev (fun k => spec_ZoneOf.f k w h c x) (zoneOf w h c x) := by
  refine Ev.bind (sFreeAt w h c x) ?_
  have hb := bt_range c x
  cases hf : freeAt w h c x with
  | false =>
    have : zoneOf w h c x = -1 := by
      unfold zoneOf
      split
      · rename_i hh
        have : ¬ freeAt w h c x = true := by simp [hf]
        rw [freeAt_iff] at this
        have h35 : bt c x = 35 := by
          apply Decidable.byContradiction
          intro hne
          exact this ⟨hh.1, hh.2.1, hh.2.2, hne⟩
        rw [if_neg (by omega), if_neg (by omega)]
      · rfl
    rw [this]
    refine Ev.congr (fun k => by rw [if_neg (by simp)]) (Ev.step (f := fun _ => some (-1)) (fun k => by rw [spec_ZoneOf.j0, if_pos rfl]) (Ev.now _))
  | true =>
    obtain ⟨g, h0, h1, h35⟩ := freeAt_iff.mp hf
    have hk := of_decide_eq_true (gridOk_cell g h0 h1)
    refine Ev.congr (fun k => by rw [if_pos rfl, if_pos h0, if_pos h1]) ?_
    unfold zoneOf
    rw [if_pos ⟨g, h0, h1⟩]
    have w1 : wrap64 (bt c x) = bt c x := w64 (by omega) (by omega)
    have w2 : wrap64 (bt c x - 97) = bt c x - 97 := w64 (by omega) (by omega)
    have w3 : wrap64 (bt c x - 65) = bt c x - 65 := w64 (by omega) (by omega)
    by_cases h46 : bt c x = 46
    · rw [if_neg (by omega), if_neg (by omega)]
      exact Ev.step (f := fun _ => some (-1)) (fun k => by rw [spec_ZoneOf.j0, if_pos (by simpa using h46)]) (Ev.now _)
    · by_cases h97 : bt c x ≥ 97
      · rw [if_pos (by omega)]
        exact Ev.step (f := fun _ => some (bt c x - 97)) (fun k => by rw [spec_ZoneOf.j0, if_neg (by simpa using h46), if_pos h0, if_pos h1, if_pos h97, w1, w2]) (Ev.now _)
      · rw [if_neg (by omega), if_pos (by omega)]
        exact Ev.step (f := fun _ => some (bt c x - 65)) (fun k => by rw [spec_ZoneOf.j0, if_neg (by simpa using h46), if_pos h0, if_pos h1, if_neg h97, w1, w3]) (Ev.now _)

/-! impl.GridOk -/
theorem impl_cells (w h : Int) (c : ByteArray) (hc : c.size ≤ 64) (d : Nat) : ∀ i : Int, 0 ≤ i → i + d = c.size → Ev (fun k => impl_GridOk.l0 k i w h c) (cellsOk c d i) := by
  induction d with
  | zero => intro i h0 h1; exact Ev.step (f := fun _ => some true) (fun k => by rw [impl_GridOk.l0, if_neg (by omega)]) (Ev.now _)
  | succ d ih =>
    intro i h0 h1
    rw [cellsOk]
    have hnext := ih (i + 1) (by omega) (by omega)
    have hw : wrap64 (i + 1) = i + 1 := w64 (by omega) (by omega)
    cases hk : cellOk (bt c i) with
    | true =>
      have hk2 := of_decide_eq_true hk
      refine Ev.step (f := fun k => impl_GridOk.l0 k (i + 1) w h c) (fun k => ?_) hnext
      rw [impl_GridOk.l0, if_pos (by omega), if_pos h0, hw]
      repeat' split
      all_goals first | rfl | omega
    | false =>
      have hk2 := of_decide_eq_false hk
      refine Ev.step (f := fun k => some false) (fun k => ?_) (Ev.now _)
      rw [impl_GridOk.l0, if_pos (by omega), if_pos h0, hw]
      repeat' split
      all_goals first | rfl | omega

theorem iGridOk (w h : Int) (c : ByteArray) : Ev (fun k => impl_GridOk.f k w h c) (gridOk w h c) := by
  have bad : ∀ hn : ¬ sideOk w h c, Ev (fun k => impl_GridOk.j0 k true w h c) (gridOk w h c) := fun hn => by
    have : gridOk w h c = false := by unfold gridOk; rw [decide_eq_false hn]; rfl
    rw [this]
    exact Ev.step (fun k => by rw [impl_GridOk.j0, if_pos rfl]) (Ev.now _)
  by_cases h1 : w < 1
  · exact Ev.congr (fun k => by unfold impl_GridOk.f; rw [if_pos h1]) (bad (fun hs => by have := hs.1; omega))
  by_cases h2 : w > 8
  · exact Ev.congr (fun k => by unfold impl_GridOk.f; rw [if_neg h1, if_pos h2]) (bad (fun hs => by have := hs.2.1; omega))
  by_cases h3 : h < 1
  · exact Ev.congr (fun k => by unfold impl_GridOk.f; rw [if_neg h1, if_neg h2, if_pos h3]) (bad (fun hs => by have := hs.2.2.1; omega))
  by_cases h4 : h > 8
  · exact Ev.congr (fun k => by unfold impl_GridOk.f; rw [if_neg h1, if_neg h2, if_neg h3, if_pos h4]) (bad (fun hs => by have := hs.2.2.2.1; omega))
  have hm := side_mul (w := w) (h := h) (by omega) (by omega) (by omega) (by omega)
  have hw : wrap64 (w * h) = w * h := w64 (by omega) (by omega)
  refine Ev.congr (fun k => by unfold impl_GridOk.f; rw [if_neg h1, if_neg h2, if_neg h3, if_neg h4, hw]) ?_
  by_cases h5 : (c.size : Int) = w * h
  · have : gridOk w h c = cellsOk c c.size 0 := by unfold gridOk; rw [decide_eq_true (show sideOk w h c from ⟨by omega, by omega, by omega, by omega, h5⟩)]; rfl
    rw [this]
    exact Ev.step (fun k => by rw [impl_GridOk.j0, if_neg (by simpa using h5)]) (impl_cells w h c (by omega) c.size 0 (by omega) (by omega))
  · have : ((c.size : Int) != w * h) = true := by simpa using h5
    rw [this]
    exact bad (fun hs => h5 hs.2.2.2.2)

/-! impl.ZoneOf -/
theorem iZoneOf (w h : Int) (c : ByteArray) (x : Int) : Ev (fun k => impl_ZoneOf.f k w h c x) (zoneOf w h c x) := by
  refine Ev.bind (iGridOk w h c) ?_
  have hb := bt_range c x
  have out : ∀ hn : ¬ (gridOk w h c = true ∧ 0 ≤ x ∧ x < c.size), Ev (fun k => impl_ZoneOf.j0 k x true w h c) (zoneOf w h c x) := fun hn => by
    have : zoneOf w h c x = -1 := by unfold zoneOf; rw [if_neg hn]
    rw [this]
    exact Ev.step (f := fun _ => some (-1)) (fun k => by rw [impl_ZoneOf.j0, if_pos rfl]) (Ev.now _)
  cases hg : gridOk w h c with
  | false => exact Ev.congr (fun k => by rw [if_neg (by simp)]) (out (by simp [hg]))
  | true =>
    by_cases h0 : x < 0
    · exact Ev.congr (fun k => by rw [if_pos rfl, if_pos h0]) (out (by omega))
    · by_cases h1 : x ≥ (c.size : Int)
      · exact Ev.congr (fun k => by rw [if_pos rfl, if_neg h0, decide_eq_true h1]) (out (by omega))
      · refine Ev.congr (fun k => by rw [if_pos rfl, if_neg h0, decide_eq_false h1]) ?_
        unfold zoneOf
        rw [if_pos ⟨hg, by omega, by omega⟩]
        have j1 : ∀ (b : Int) (q : Bool), (q = true ↔ 97 ≤ b ∧ b ≤ 102) → 0 ≤ b → b ≤ 255 → Ev (fun k => impl_ZoneOf.j1 k b q) (if 97 ≤ b ∧ b ≤ 102 then b - 97 else if 65 ≤ b ∧ b ≤ 70 then b - 65 else -1) := fun b q hq hb0 hb1 => by
          by_cases hz : 97 ≤ b ∧ b ≤ 102
          · rw [if_pos hz]
            exact Ev.step (f := fun _ => some (b - 97)) (fun k => by rw [impl_ZoneOf.j1, if_pos (hq.mpr hz), Int.emod_eq_of_lt (by omega) (by omega)]) (Ev.now _)
          · rw [if_neg hz]
            have hq' : ¬ q = true := fun hh => hz (hq.mp hh)
            by_cases h65 : b ≥ 65
            · by_cases h70 : b ≤ 70
              · rw [if_pos ⟨h65, h70⟩]
                exact Ev.step (f := fun _ => some (b - 65)) (fun k => by rw [impl_ZoneOf.j1, if_neg hq', if_pos h65, if_pos h70, Int.emod_eq_of_lt (by omega) (by omega)]) (Ev.now _)
              · rw [if_neg (by omega)]
                exact Ev.step (f := fun _ => some (-1)) (fun k => by rw [impl_ZoneOf.j1, if_neg hq', if_pos h65, if_neg h70]) (Ev.now _)
            · rw [if_neg (by omega)]
              exact Ev.step (f := fun _ => some (-1)) (fun k => by rw [impl_ZoneOf.j1, if_neg hq', if_neg h65]) (Ev.now _)
        by_cases h97 : bt c x ≥ 97
        · exact Ev.step (fun k => by rw [impl_ZoneOf.j0, if_neg (by simp), if_pos (by omega), if_pos (by omega), if_pos h97]) (j1 (bt c x) _ (by simp; omega) hb.1 hb.2)
        · exact Ev.step (fun k => by rw [impl_ZoneOf.j0, if_neg (by simp), if_pos (by omega), if_pos (by omega), if_neg h97]) (j1 (bt c x) _ (by simp; omega) hb.1 hb.2)

end Go.Proofs.Ytkmbefadmoidbaa.QFnExactZoneOf

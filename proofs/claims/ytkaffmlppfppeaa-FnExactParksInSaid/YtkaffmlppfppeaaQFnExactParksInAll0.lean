/- What the functions that the law FnExactParksIn reaches compute: Conv, GridOkS, FreeAtS, ParkAtS, ZoneOfS, ParksInS, GridOkI, isFree, FreeCellsI, ParkAtI, ZoneOfI, ParksInI, EqIntS, MarkIntS. -/
import Derived.Test.YtkaffmlppfppeaaPFnExactParksInx
import Derived.Test.YtkaffmlppfppeaaMBase
import Derived.Test.YtkaffmlppfppeaaMGrid
import Derived.Test.YtkaffmlppfppeaaMLists
import Derived.Test.YtkaffmlppfppeaaMMarks
namespace Go.Proofs.Ytkaffmlppfppeaa.QFnExactParksIn
open Go.RowKit Go.Proofs.Ytkaffmlppfppeaa.PFnExactParksIn Go.Proofs.YtkaffmlppfppeaaW.PrintWords Go.Proofs.YtkaffmlppfppeaaW.PrintLast Go.Proofs.YtkaffmlppfppeaaW.PrintMore Go.Proofs.Ytkaffmlppfppeaa.MBase Go.Proofs.Ytkaffmlppfppeaa.MGrid Go.Proofs.Ytkaffmlppfppeaa.MLists Go.Proofs.Ytkaffmlppfppeaa.MMarks
set_option linter.unusedVariables false
set_option linter.unusedSimpArgs false

/-! szGrid and toGrid -/
theorem szGrid_ev (w h : Int) (c : ByteArray) (hc : c.size ≤ 9223372036854775807) :
    (∃ t, laws_szGrid.f w h c 1048576 = some t ∧ t < 0) ∨ (c.size ≤ 1048576 ∧ ∃ t, laws_szGrid.f w h c 1048576 = some t ∧ ¬ t < 0) := by
  unfold laws_szGrid.f
  rw [w64 (by omega) (by omega)]
  by_cases hb : (1048576 - (c.size : Int)) < 0
  · exact .inl ⟨-1, by rw [if_pos hb], by omega⟩
  · exact .inr ⟨by omega, _, by rw [if_neg hb], hb⟩

/-! spec.GridOk -/
theorem l02Kind_eq (b : Int) : spec_l02Kind.f b = some (cellOk b) := by
  unfold spec_l02Kind.f cellOk
  repeat' split
  all_goals
    congr 1
    first
    | (rw [decide_eq_decide]; omega)
    | (rw [eq_comm, decide_eq_true_eq]; omega)
    | (rw [eq_comm, decide_eq_false_iff_not]; omega)

theorem spec_cells (w h : Int) (c : ByteArray) (hc : c.size ≤ 64) (d : Nat) : ∀ i : Int, 0 ≤ i → i + d = c.size → Ev (fun k => spec_GridOk.l0 k i w h c) (cellsOk c d i) := by
  induction d with
  | zero => intro i h0 h1; exact Ev.step (f := fun _ => some true) (fun k => by rw [spec_GridOk.l0, if_neg (by omega)]) (Ev.now _)
  | succ d ih =>
    intro i h0 h1
    rw [cellsOk]
    cases hk : cellOk (bt c i) with
    | true => exact Ev.step (fun k => by rw [spec_GridOk.l0, if_pos (by omega), if_pos h0, l02Kind_eq, hk, Option.bind_some, if_pos rfl, w64 (by omega) (by omega)]) (ih (i + 1) (by omega) (by omega))
    | false => exact Ev.step (f := fun _ => some false) (fun k => by rw [spec_GridOk.l0, if_pos (by omega), if_pos h0, l02Kind_eq, hk, Option.bind_some, if_neg (by simp)]) (Ev.now _)

theorem sGridOk (w h : Int) (c : ByteArray) : Ev (fun k => spec_GridOk.f k w h c) (gridOk w h c) := by
  have bad : ∀ hn : ¬ sideOk w h c, Ev (fun k => spec_GridOk.j0 k true w h c) (gridOk w h c) := fun hn => by
    have : gridOk w h c = false := by unfold gridOk; rw [decide_eq_false hn]; rfl
    rw [this]
    exact Ev.step (fun k => by rw [spec_GridOk.j0, if_pos rfl]) (Ev.now _)
  by_cases h1' : ¬ w ≥ 1
  · have h1 := h1'
    exact Ev.congr (fun k => by unfold spec_GridOk.f spec_l01In.f; rw [if_neg h1, Option.bind_some, if_neg (by simp)]) (bad (fun hs => h1 hs.1))
  have h1 := Decidable.not_not.mp h1'
  by_cases h2' : ¬ w ≤ 8
  · have h2 := h2'
    exact Ev.congr (fun k => by unfold spec_GridOk.f spec_l01In.f; rw [if_pos h1, Option.bind_some, if_neg (by simpa using h2)]) (bad (fun hs => h2 hs.2.1))
  have h2 := Decidable.not_not.mp h2'
  by_cases h3' : ¬ h ≥ 1
  · have h3 := h3'
    exact Ev.congr (fun k => by unfold spec_GridOk.f spec_l01In.f; rw [if_pos h1, Option.bind_some, if_pos (by simpa using h2), if_neg h3, Option.bind_some, if_neg (by simp)]) (bad (fun hs => h3 hs.2.2.1))
  have h3 := Decidable.not_not.mp h3'
  by_cases h4' : ¬ h ≤ 8
  · have h4 := h4'
    exact Ev.congr (fun k => by unfold spec_GridOk.f spec_l01In.f; rw [if_pos h1, Option.bind_some, if_pos (by simpa using h2), if_pos h3, Option.bind_some, if_neg (by simpa using h4)]) (bad (fun hs => h4 hs.2.2.2.1))
  have h4 := Decidable.not_not.mp h4'
  have hm := side_mul h1 h2 h3 h4
  have hw : wrap64 (w * h) = w * h := w64 (by omega) (by omega)
  refine Ev.congr (fun k => by unfold spec_GridOk.f spec_l01In.f; rw [if_pos h1, Option.bind_some, if_pos (by simpa using h2), if_pos h3, Option.bind_some, if_pos (by simpa using h4), hw]) ?_
  by_cases h5 : (c.size : Int) = w * h
  · have : gridOk w h c = cellsOk c c.size 0 := by unfold gridOk; rw [decide_eq_true (show sideOk w h c from ⟨h1, h2, h3, h4, h5⟩)]; rfl
    rw [this]
    exact Ev.step (fun k => by rw [spec_GridOk.j0, if_neg (by simpa using h5)]) (spec_cells w h c (by omega) c.size 0 (by omega) (by omega))
  · have : ((c.size : Int) != w * h) = true := by simpa using h5
    rw [this]
    exact bad (fun hs => h5 hs.2.2.2.2)

/-! spec.FreeAt -/
theorem sFreeAt (w h : Int) (c : ByteArray) (x : Int) : Ev (fun k => spec_FreeAt.f k w h c x) (freeAt w h c x) := by
  refine Ev.bind (sGridOk w h c) ?_
  unfold freeAt
  cases hg : gridOk w h c with
  | false => simp only [Bool.false_eq_true, if_false, Bool.false_and]; exact Ev.now _
  | true =>
    simp only [if_true, Bool.true_and]
    by_cases h0 : x ≥ 0
    · by_cases h1 : x < (c.size : Int)
      · refine Ev.of_eq fun k => ?_
        rw [if_pos h0, if_pos h1, if_pos (by omega), decide_eq_true (show 0 ≤ x ∧ x < (c.size : Int) from ⟨h0, h1⟩), Bool.true_and]
        congr 1
        rw [Bool.eq_iff_iff, bne_iff_ne, decide_eq_true_eq]
      · refine Ev.of_eq fun k => ?_
        rw [if_pos h0, if_neg h1, decide_eq_false (fun hh : 0 ≤ x ∧ x < (c.size : Int) => h1 hh.2)]
        rfl
    · refine Ev.of_eq fun k => ?_
      rw [if_neg h0, decide_eq_false (fun hh : 0 ≤ x ∧ x < (c.size : Int) => h0 hh.1)]
      rfl

/-! spec.ParkAt -/
theorem sParkAt (w h : Int) (c : ByteArray) (x : Int) : Ev (fun k => spec_ParkAt.f k w h c x) (parkAt w h c x) := by
  refine Ev.bind (sFreeAt w h c x) ?_
  cases hf : freeAt w h c x with
  | false =>
    have : parkAt w h c x = false := by
      unfold parkAt
      unfold freeAt at hf
      cases hg : gridOk w h c with
      | false => rfl
      | true =>
        rw [hg] at hf
        simp only [Bool.true_and, Bool.and_eq_false_iff, decide_eq_false_iff_not] at hf ⊢
        rcases hf with hf | hf
        · exact .inl hf
        · exact .inr (by omega)
    rw [this]
    simp only [Bool.false_eq_true, if_false]
    exact Ev.now _
  | true =>
    obtain ⟨g, h0, h1, _⟩ := freeAt_iff.mp hf
    refine Ev.of_eq fun k => ?_
    unfold parkAt
    rw [if_pos rfl, if_pos h0, if_pos h1, g, decide_eq_true (show 0 ≤ x ∧ x < (c.size : Int) from ⟨h0, h1⟩), Bool.true_and, Bool.true_and]
    by_cases h2 : bt c x ≥ 65
    · rw [if_pos h2]; congr 1; rw [decide_eq_decide]; omega
    · rw [if_neg h2]; congr 1; rw [eq_comm, decide_eq_false_iff_not]; omega

/-! spec.ZoneOf -/
theorem sZoneOf (w h : Int) (c : ByteArray) (x : Int) : Ev (fun k => spec_ZoneOf.f k w h c x) (zoneOf w h c x) := by
  refine Ev.bind (sFreeAt w h c x) ?_
  have hb := bt_range c x
  cases hf : freeAt w h c x with
  | false =>
    have : zoneOf w h c x = -1 := by
      unfold zoneOf
      split
      · rename_i hh
        have : ¬ freeAt w h c x = true := by simp [hf]
        rw [freeAt_iff] at this
        have h35 : bt c x = 35 := by
          apply Decidable.byContradiction
          intro hne
          exact this ⟨hh.1, hh.2.1, hh.2.2, hne⟩
        rw [if_neg (by omega), if_neg (by omega)]
      · rfl
    rw [this]
    refine Ev.congr (fun k => by rw [if_neg (by simp)]) (Ev.step (f := fun _ => some (-1)) (fun k => by rw [spec_ZoneOf.j0, if_pos rfl]) (Ev.now _))
  | true =>
    obtain ⟨g, h0, h1, h35⟩ := freeAt_iff.mp hf
    have hk := of_decide_eq_true (gridOk_cell g h0 h1)
    refine Ev.congr (fun k => by rw [if_pos rfl, if_pos h0, if_pos h1]) ?_
    unfold zoneOf
    rw [if_pos ⟨g, h0, h1⟩]
    have w1 : wrap64 (bt c x) = bt c x := w64 (by omega) (by omega)
    have w2 : wrap64 (bt c x - 97) = bt c x - 97 := w64 (by omega) (by omega)
    have w3 : wrap64 (bt c x - 65) = bt c x - 65 := w64 (by omega) (by omega)
    by_cases h46 : bt c x = 46
    · rw [if_neg (by omega), if_neg (by omega)]
      exact Ev.step (f := fun _ => some (-1)) (fun k => by rw [spec_ZoneOf.j0, if_pos (by simpa using h46)]) (Ev.now _)
    · by_cases h97 : bt c x ≥ 97
      · rw [if_pos (by omega)]
        exact Ev.step (f := fun _ => some (bt c x - 97)) (fun k => by rw [spec_ZoneOf.j0, if_neg (by simpa using h46), if_pos h0, if_pos h1, if_pos h97, w1, w2]) (Ev.now _)
      · rw [if_neg (by omega), if_pos (by omega)]
        exact Ev.step (f := fun _ => some (bt c x - 65)) (fun k => by rw [spec_ZoneOf.j0, if_neg (by simpa using h46), if_pos h0, if_pos h1, if_neg h97, w1, w3]) (Ev.now _)

/-! spec.ParksIn -/
theorem sParks_l0 (w h : Int) (c : ByteArray) (z : Int) (n : Nat) (hc : n ≤ 64) (hstop : ∀ acc : List Int, acc.length ≤ 100 → Ev (fun k => spec_ParksIn.l0 k z acc (n : Int) w h c) acc) (hin : (n : Int) ≤ c.size) (d : Nat) : ∀ (i : Int) (acc : List Int), 0 ≤ i → i + d = n → acc.length + d ≤ 100 →
    Ev (fun k => spec_ParksIn.l0 k z acc i w h c) (acc ++ parkL w h c z d i) := by
  induction d with
  | zero =>
    intro i acc h0 h1 h2
    obtain rfl : i = (n : Int) := by omega
    rw [parkL, List.append_nil]
    exact hstop acc (by omega)
  | succ d ih =>
    intro i acc h0 h1 h2
    have hw : wrap64 (i + 1) = i + 1 := w64 (by omega) (by omega)
    have g1 : i < (c.size : Int) := by omega
    have hacc : acc.length < 17592186044416 := by omega
    rw [parkL]
    unfold isPark
    refine Ev.step (fun k => by rw [spec_ParksIn.l0, if_pos g1, decide_eq_true (show i < 64 by omega)]) (Ev.step (fun k => by rw [spec_ParksIn.j1, if_pos rfl]) (Ev.bind (sParkAt w h c i) ?_))
    cases hp : parkAt w h c i with
    | false =>
      have h3 := ih (i + 1) acc (by omega) (by omega) (by omega)
      exact Ev.congr (fun k => by rw [if_neg (by simp), hw]) h3
    | true =>
      refine Ev.congr (fun k => by rw [if_pos rfl]) (Ev.bind (sZoneOf w h c i) ?_)
      by_cases hz : zoneOf w h c i = z
      · rw [decide_eq_true hz, Bool.true_and, if_pos rfl]
        have h3 := ih (i + 1) (acc ++ [i]) (by omega) (by omega) (by simp; omega)
        rw [List.append_assoc] at h3
        exact Ev.congr (fun k => by rw [if_pos hz, if_pos hacc, hw]) h3
      · rw [decide_eq_false hz, Bool.true_and, if_neg (by simp)]
        have h3 := ih (i + 1) acc (by omega) (by omega) (by omega)
        exact Ev.congr (fun k => by rw [if_neg hz, hw]) h3

theorem parkL_bad {w h : Int} {c : ByteArray} (g : gridOk w h c = false) (z : Int) (d : Nat) : ∀ i : Int, parkL w h c z d i = [] := by
  induction d with
  | zero => intro i; rfl
  | succ d ih =>
    intro i
    rw [parkL, ih, if_neg (by unfold isPark parkAt; rw [g]; simp)]
    rfl

theorem sParksIn (w h : Int) (c : ByteArray) (z : Int) : Ev (fun k => spec_ParksIn.f k w h c z) (parksIn w h c z) := by
  by_cases hc : c.size ≤ 64
  · have h0 := sParks_l0 w h c z c.size hc (fun acc _ => Ev.step (fun k => by rw [spec_ParksIn.l0, if_neg (by omega)]) (Ev.step (f := fun _ => some acc) (fun k => by rw [spec_ParksIn.j1, if_neg (by simp)]) (Ev.now _))) (Int.le_refl _) c.size 0 [] (by omega) (by omega) (by simp; omega)
    rw [List.nil_append] at h0
    unfold parksIn
    cases g : gridOk w h c with
    | true => rw [if_pos rfl]; exact h0
    | false => rw [if_neg (by simp)]; rw [parkL_bad g] at h0; exact h0
  · have g : gridOk w h c = false := by
      cases hg : gridOk w h c with
      | false => rfl
      | true => have := gridOk_size hg; omega
    have h0 := sParks_l0 w h c z 64 (Nat.le_refl _) (fun acc _ => Ev.step (fun k => by rw [spec_ParksIn.l0, if_pos (by omega), decide_eq_false (by omega)]) (Ev.step (f := fun _ => some acc) (fun k => by rw [spec_ParksIn.j1, if_neg (by simp)]) (Ev.now _))) (by omega) 64 0 [] (by omega) (by omega) (by simp)
    rw [List.nil_append, parkL_bad g] at h0
    unfold parksIn
    rw [g, if_neg (by simp)]
    exact h0

/-! impl.GridOk -/
theorem impl_cells (w h : Int) (c : ByteArray) (hc : c.size ≤ 64) (d : Nat) : ∀ i : Int, 0 ≤ i → i + d = c.size → Ev (fun k => impl_GridOk.l0 k i w h c) (cellsOk c d i) := by
  induction d with
  | zero => intro i h0 h1; exact Ev.step (f := fun _ => some true) (fun k => by rw [impl_GridOk.l0, if_neg (by omega)]) (Ev.now _)
  | succ d ih =>
    intro i h0 h1
    rw [cellsOk]
    have hnext := ih (i + 1) (by omega) (by omega)
    have hw : wrap64 (i + 1) = i + 1 := w64 (by omega) (by omega)
    cases hk : cellOk (bt c i) with
    | true =>
      have hk2 := of_decide_eq_true hk
      refine Ev.step (f := fun k => impl_GridOk.l0 k (i + 1) w h c) (fun k => ?_) hnext
      rw [impl_GridOk.l0, if_pos (by omega), if_pos h0, hw]
      repeat' split
      all_goals first | rfl | omega
    | false =>
      have hk2 := of_decide_eq_false hk
      refine Ev.step (f := fun k => some false) (fun k => ?_) (Ev.now _)
      rw [impl_GridOk.l0, if_pos (by omega), if_pos h0, hw]
      repeat' split
      all_goals first | rfl | omega

theorem iGridOk (w h : Int) (c : ByteArray) : Ev (fun k => impl_GridOk.f k w h c) (gridOk w h c) := by
  have bad : ∀ hn : ¬ sideOk w h c, Ev (fun k => impl_GridOk.j0 k true w h c) (gridOk w h c) := fun hn => by
    have : gridOk w h c = false := by unfold gridOk; rw [decide_eq_false hn]; rfl
    rw [this]
    exact Ev.step (fun k => by rw [impl_GridOk.j0, if_pos rfl]) (Ev.now _)
  by_cases h1 : w < 1
  · exact Ev.congr (fun k => by unfold impl_GridOk.f; rw [if_pos h1]) (bad (fun hs => by have := hs.1; omega))
  by_cases h2 : w > 8
  · exact Ev.congr (fun k => by unfold impl_GridOk.f; rw [if_neg h1, if_pos h2]) (bad (fun hs => by have := hs.2.1; omega))
  by_cases h3 : h < 1
  · exact Ev.congr (fun k => by unfold impl_GridOk.f; rw [if_neg h1, if_neg h2, if_pos h3]) (bad (fun hs => by have := hs.2.2.1; omega))
  by_cases h4 : h > 8
  · exact Ev.congr (fun k => by unfold impl_GridOk.f; rw [if_neg h1, if_neg h2, if_neg h3, if_pos h4]) (bad (fun hs => by have := hs.2.2.2.1; omega))
  have hm := side_mul (w := w) (h := h) (by omega) (by omega) (by omega) (by omega)
  have hw : wrap64 (w * h) = w * h := w64 (by omega) (by omega)
  refine Ev.congr (fun k => by unfold impl_GridOk.f; rw [if_neg h1, if_neg h2, if_neg h3, if_neg h4, hw]) ?_
  by_cases h5 : (c.size : Int) = w * h
  · have : gridOk w h c = cellsOk c c.size 0 := by unfold gridOk; rw [decide_eq_true (show sideOk w h c from ⟨by omega, by omega, by omega, by omega, h5⟩)]; rfl
    rw [this]
    exact Ev.step (fun k => by rw [impl_GridOk.j0, if_neg (by simpa using h5)]) (impl_cells w h c (by omega) c.size 0 (by omega) (by omega))
  · have : ((c.size : Int) != w * h) = true := by simpa using h5
    rw [this]
    exact bad (fun hs => h5 hs.2.2.2.2)

/-! impl.isFree -/
theorem isFree_eq {w h : Int} {c : ByteArray} (g : gridOk w h c = true) (x : Int) : impl_isFree.f w h c x = some (freeAt w h c x) := by
  unfold freeAt impl_isFree.f
  rw [g]
  simp only [Bool.true_and]
  by_cases h0 : x ≥ 0
  · by_cases h1 : x < (c.size : Int)
    · rw [if_pos h0, if_pos h1, if_pos (by omega), decide_eq_true (show 0 ≤ x ∧ x < (c.size : Int) from ⟨h0, h1⟩), Bool.true_and]
      congr 1
      rw [Bool.eq_iff_iff, bne_iff_ne, decide_eq_true_eq]
    · rw [if_pos h0, if_neg h1, decide_eq_false (fun hh : 0 ≤ x ∧ x < (c.size : Int) => h1 hh.2)]
      rfl
  · rw [if_neg h0, decide_eq_false (fun hh : 0 ≤ x ∧ x < (c.size : Int) => h0 hh.1)]
    rfl

/-! impl.FreeCells -/
theorem iFree_l0 {w h : Int} {c : ByteArray} (g : gridOk w h c = true) (d : Nat) : ∀ (i : Int) (acc : List Int), 0 ≤ i → i + d = c.size → acc.length + d ≤ 100 →
    Ev (fun k => impl_FreeCells.l0 k acc i w h c) (acc ++ freeList c d i) := by
  have hs := gridOk_size g
  induction d with
  | zero =>
    intro i acc h0 h1 h2
    rw [freeList, List.append_nil]
    exact Ev.step (f := fun _ => some acc) (fun k => by rw [impl_FreeCells.l0, if_neg (by omega)]) (Ev.now _)
  | succ d ih =>
    intro i acc h0 h1 h2
    have hw : wrap64 (i + 1) = i + 1 := w64 (by omega) (by omega)
    rw [freeList]
    by_cases hb : bt c i ≠ 35
    · rw [if_pos hb, ← List.append_assoc]
      exact Ev.step (fun k => by rw [impl_FreeCells.l0, if_pos (by omega), isFree_eq g, freeAt_in g h0 (by omega), decide_eq_true hb, Option.bind_some, if_pos rfl, if_pos (by omega), hw]) (ih (i + 1) (acc ++ [i]) (by omega) (by omega) (by simp; omega))
    · rw [if_neg hb, List.nil_append]
      exact Ev.step (fun k => by rw [impl_FreeCells.l0, if_pos (by omega), isFree_eq g, freeAt_in g h0 (by omega), decide_eq_false hb, Option.bind_some, if_neg (by simp), hw]) (ih (i + 1) acc (by omega) (by omega) (by omega))

theorem iFreeCells (w h : Int) (c : ByteArray) : Ev (fun k => impl_FreeCells.f k w h c) (freeCells w h c) := by
  refine Ev.bind (iGridOk w h c) ?_
  unfold freeCells
  cases g : gridOk w h c with
  | false => exact Ev.of_eq fun k => by rw [if_neg (by simp), if_neg (by simp)]
  | true =>
    rw [if_pos rfl]
    have hs := gridOk_size g
    have h0 := iFree_l0 g c.size 0 [] (by omega) (by omega) (by simp; omega)
    rw [List.nil_append] at h0
    exact Ev.congr (fun k => by rw [if_pos rfl]) h0

/-! impl.ParkAt -/
theorem iParkAt (w h : Int) (c : ByteArray) (x : Int) : Ev (fun k => impl_ParkAt.f k w h c x) (parkAt w h c x) := by
  refine Ev.bind (iGridOk w h c) ?_
  unfold parkAt
  cases hg : gridOk w h c with
  | false => simp only [Bool.false_eq_true, if_false, Bool.false_and]; exact Ev.now _
  | true =>
    simp only [if_true, Bool.true_and]
    by_cases h0 : x ≥ 0
    · by_cases h1 : x < (c.size : Int)
      · refine Ev.of_eq fun k => ?_
        rw [if_pos h0, if_pos h1, if_pos (by omega), decide_eq_true (show 0 ≤ x ∧ x < (c.size : Int) from ⟨h0, h1⟩), Bool.true_and]
        by_cases h2 : bt c x ≥ 65
        · rw [if_pos h2]; congr 1; rw [decide_eq_decide]; omega
        · rw [if_neg h2]; congr 1; rw [eq_comm, decide_eq_false_iff_not]; omega
      · refine Ev.of_eq fun k => ?_
        rw [if_pos h0, if_neg h1, decide_eq_false (fun hh : 0 ≤ x ∧ x < (c.size : Int) => h1 hh.2)]
        rfl
    · refine Ev.of_eq fun k => ?_
      rw [if_neg h0, decide_eq_false (fun hh : 0 ≤ x ∧ x < (c.size : Int) => h0 hh.1)]
      rfl

/-! impl.ZoneOf -/
theorem iZoneOf (w h : Int) (c : ByteArray) (x : Int) : Ev (fun k => impl_ZoneOf.f k w h c x) (zoneOf w h c x) := by
  refine Ev.bind (iGridOk w h c) ?_
  have hb := bt_range c x
  have out : ∀ hn : ¬ (gridOk w h c = true ∧ 0 ≤ x ∧ x < c.size), Ev (fun k => impl_ZoneOf.j0 k x true w h c) (zoneOf w h c x) := fun hn => by
    have : zoneOf w h c x = -1 := by unfold zoneOf; rw [if_neg hn]
    rw [this]
    exact Ev.step (f := fun _ => some (-1)) (fun k => by rw [impl_ZoneOf.j0, if_pos rfl]) (Ev.now _)
  cases hg : gridOk w h c with
  | false => exact Ev.congr (fun k => by rw [if_neg (by simp)]) (out (by simp [hg]))
  | true =>
    by_cases h0 : x < 0
    · exact Ev.congr (fun k => by rw [if_pos rfl, if_pos h0]) (out (by omega))
    · by_cases h1 : x ≥ (c.size : Int)
      · exact Ev.congr (fun k => by rw [if_pos rfl, if_neg h0, decide_eq_true h1]) (out (by omega))
      · refine Ev.congr (fun k => by rw [if_pos rfl, if_neg h0, decide_eq_false h1]) ?_
        unfold zoneOf
        rw [if_pos ⟨hg, by omega, by omega⟩]
        have j1 : ∀ (b : Int) (q : Bool), (q = true ↔ 97 ≤ b ∧ b ≤ 102) → 0 ≤ b → b ≤ 255 → Ev (fun k => impl_ZoneOf.j1 k b q) (if 97 ≤ b ∧ b ≤ 102 then b - 97 else if 65 ≤ b ∧ b ≤ 70 then b - 65 else -1) := fun b q hq hb0 hb1 => by
          by_cases hz : 97 ≤ b ∧ b ≤ 102
          · rw [if_pos hz]
            exact Ev.step (f := fun _ => some (b - 97)) (fun k => by rw [impl_ZoneOf.j1, if_pos (hq.mpr hz), Int.emod_eq_of_lt (by omega) (by omega)]) (Ev.now _)
          · rw [if_neg hz]
            have hq' : ¬ q = true := fun hh => hz (hq.mp hh)
            by_cases h65 : b ≥ 65
            · by_cases h70 : b ≤ 70
              · rw [if_pos ⟨h65, h70⟩]
                exact Ev.step (f := fun _ => some (b - 65)) (fun k => by rw [impl_ZoneOf.j1, if_neg hq', if_pos h65, if_pos h70, Int.emod_eq_of_lt (by omega) (by omega)]) (Ev.now _)
              · rw [if_neg (by omega)]
                exact Ev.step (f := fun _ => some (-1)) (fun k => by rw [impl_ZoneOf.j1, if_neg hq', if_pos h65, if_neg h70]) (Ev.now _)
            · rw [if_neg (by omega)]
              exact Ev.step (f := fun _ => some (-1)) (fun k => by rw [impl_ZoneOf.j1, if_neg hq', if_neg h65]) (Ev.now _)
        by_cases h97 : bt c x ≥ 97
        · exact Ev.step (fun k => by rw [impl_ZoneOf.j0, if_neg (by simp), if_pos (by omega), if_pos (by omega), if_pos h97]) (j1 (bt c x) _ (by simp; omega) hb.1 hb.2)
        · exact Ev.step (fun k => by rw [impl_ZoneOf.j0, if_neg (by simp), if_pos (by omega), if_pos (by omega), if_neg h97]) (j1 (bt c x) _ (by simp; omega) hb.1 hb.2)

/-! impl.ParksIn -/
theorem iParks_l0 (w h : Int) (c : ByteArray) (z : Int) (xs : List Int) (hx : xs.length ≤ 64) (d : Nat) : ∀ (i : Nat) (acc : List Int), i + d = xs.length → acc.length + d ≤ 100 →
    Ev (fun k => impl_ParksIn.l0 k z acc xs (xs.length : Int) i w h c) (acc ++ (xs.drop i).filter (isPark w h c z)) := by
  induction d with
  | zero =>
    intro i acc h1 h2
    rw [List.drop_eq_nil_of_le (by omega), List.filter_nil, List.append_nil]
    exact Ev.step (f := fun _ => some acc) (fun k => by rw [impl_ParksIn.l0, if_neg (by omega)]) (Ev.now _)
  | succ d ih =>
    intro i acc h1 h2
    have hi : i < xs.length := by omega
    have g1 : (i : Int) < (xs.length : Int) := by omega
    have g2 : (0 : Int) ≤ (i : Int) := by omega
    have hw : wrap64 ((i : Int) + 1) = ((i + 1 : Nat) : Int) := by rw [w64 (by omega) (by omega)]; omega
    have e : rd xs (i : Int) = xs.getD i 0 := by unfold rd; rw [Int.toNat_natCast]
    have hacc : acc.length < 17592186044416 := by omega
    rw [drop_cons xs i 0 hi]
    generalize xs.getD i 0 = v at e
    refine Ev.step (fun k => by rw [impl_ParksIn.l0, if_pos g1, if_pos g2, if_pos g1, e]) (Ev.bind (iParkAt w h c v) ?_)
    rw [List.filter_cons]
    unfold isPark
    cases hp : parkAt w h c v with
    | false =>
      have h0 := ih (i + 1) acc (by omega) (by omega)
      exact Ev.congr (fun k => by rw [if_neg (by simp), hw]) h0
    | true =>
      refine Ev.congr (fun k => by rw [if_pos rfl]) (Ev.bind (iZoneOf w h c v) ?_)
      by_cases hz : zoneOf w h c v = z
      · rw [decide_eq_true hz, Bool.true_and, if_pos rfl]
        have h0 := ih (i + 1) (acc ++ [v]) (by omega) (by rw [List.length_append]; simp; omega)
        rw [List.append_assoc] at h0
        exact Ev.congr (fun k => by rw [if_pos hz, if_pos hacc, hw]) h0
      · rw [decide_eq_false hz, Bool.true_and, if_neg (by simp)]
        have h0 := ih (i + 1) acc (by omega) (by omega)
        exact Ev.congr (fun k => by rw [if_neg hz, hw]) h0

theorem iParksIn (w h : Int) (c : ByteArray) (z : Int) : Ev (fun k => impl_ParksIn.f k w h c z) (parksIn w h c z) := by
  have hl := freeCells_len w h c
  have h0 := iParks_l0 w h c z (freeCells w h c) hl (freeCells w h c).length 0 [] (Nat.zero_add _) (by simp; omega)
  rw [List.drop_zero, List.nil_append, show ((0 : Nat) : Int) = 0 from rfl] at h0
  have e : (freeCells w h c).filter (isPark w h c z) = parksIn w h c z := by
    unfold freeCells parksIn
    split
    · exact parkL_filter w h c z _ _
    · rfl
  rw [e] at h0
  exact Ev.bind (iFreeCells w h c) h0

/-! eqIntS: a list equals itself -/
theorem eqIntS_l0 (xs : List Int) (hx : xs.length < 1099511627776) (d : Nat) : ∀ i : Int, 0 ≤ i → i + d = xs.length → Ev (fun k => laws_eqIntS.l0 k xs xs i) true := by
  induction d with
  | zero => intro i h0 h; exact Ev.step (fun k => by rw [laws_eqIntS.l0, if_neg (by omega)]) (Ev.now _)
  | succ d ih =>
    intro i h0 h
    refine Ev.step (fun k => by rw [laws_eqIntS.l0, if_pos (by omega), if_pos h0, if_pos (by omega), if_pos rfl, w64 (by omega) (by omega)]) (ih (i + 1) (by omega) (by omega))

theorem eqIntS_same (xs : List Int) (hx : xs.length < 1099511627776) : Ev (fun k => laws_eqIntS.f k xs xs) true := by
  refine Ev.congr (fun k => by unfold laws_eqIntS.f; rw [if_pos rfl]) ?_
  exact eqIntS_l0 xs hx xs.length 0 (by omega) (by omega)

/-! markIntS and heldIntS: marks that were set are found; lists of fewer than 2^40 elements -/
theorem markIntS_l0 (d : Nat) : ∀ (xs : List Int) (m i : Int), xs.length < 1099511627776 → 0 ≤ i → 0 ≤ m → m + d ≤ 4000000000000 → i + d = xs.length → Ev (fun k => laws_markIntS.l0 k xs m i) (m + d, markL (fun x => x) d xs m i) := by
  induction d with
  | zero =>
    intro xs m i hx h0 h1 h2 h
    refine Ev.step (fun k => by rw [laws_markIntS.l0, if_neg (by omega)]) ?_
    simp only [markL]
    have : m + ((0 : Nat) : Int) = m := by omega
    rw [this]
    exact Ev.now _
  | succ d ih =>
    intro xs m i hx h0 h1 h2 h
    refine Ev.step (fun k => by rw [laws_markIntS.l0, if_pos (by omega), if_pos h0, w64 (by omega) (by omega), w64 (by omega) (by omega)]) ?_
    have := ih (xs.set i.toNat m) (m + 1) (i + 1) (by simpa using hx) (by omega) (by omega) (by omega) (by simp; omega)
    rw [show m + 1 + (d : Int) = m + ((d + 1 : Nat) : Int) by omega] at this
    exact this

theorem heldIntS_l0 (ys : List Int) (d : Nat) : ∀ (m i : Int), ys.length < 1099511627776 → 0 ≤ i → 0 ≤ m → m + d ≤ 4000000000000 → i + d = ys.length → Marked (fun x => x) 0 ys m i d → Ev (fun k => laws_heldIntS.l0 k ys m i) (m + d) := by
  induction d with
  | zero =>
    intro m i hx h0 h1 h2 h _
    refine Ev.step (fun k => by rw [laws_heldIntS.l0, if_neg (by omega)]) ?_
    have : m + ((0 : Nat) : Int) = m := by omega
    rw [this]
    exact Ev.now _
  | succ d ih =>
    intro m i hx h0 h1 h2 h hm
    refine Ev.step (fun k => by rw [laws_heldIntS.l0, if_pos (by omega), if_pos h0, if_pos (show rd ys i = m from hm.head), w64 (by omega) (by omega), w64 (by omega) (by omega)]) ?_
    have := ih (m + 1) (i + 1) hx (by omega) (by omega) (by omega) (by omega) (hm.tail h0)
    rw [show m + 1 + (d : Int) = m + ((d + 1 : Nat) : Int) by omega] at this
    exact this

/-- A list is marked from 1 on, and the marks are found. -/
theorem marks_int (xs : List Int) (hx : xs.length < 1099511627776) (m : Int) (hm0 : 0 ≤ m) (hm : m ≤ 1000000000000) :
    ∃ ys : List Int, ys.length = xs.length ∧ Ev (fun k => laws_markIntS.f k xs m) (m + xs.length, ys) ∧ Ev (fun k => laws_heldIntS.f k ys m) (m + xs.length) := by
  refine ⟨markL (fun x => x) xs.length xs m 0, markL_length _ _ _ _ _, ?_, ?_⟩
  · exact markIntS_l0 xs.length xs m 0 hx (by omega) hm0 (by omega) (by omega)
  · have hl := markL_length (fun x : Int => x) xs.length xs m 0
    exact heldIntS_l0 _ xs.length m 0 (by omega) (by omega) hm0 (by omega) (by omega) (markL_marked _ _ _ _ _ _ (by omega) (by omega))

end Go.Proofs.Ytkaffmlppfppeaa.QFnExactParksIn

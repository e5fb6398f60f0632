/- What the functions that the law FnZones reaches compute: DrawCur, DrawRight, DrawMap, GridOkI, isFree, FreeCellsI, ParkAtI, ZoneOfI, ParksInI, FreeAtI. -/
import Derived.Test.YtkaffmlppfppeaaPFnZonesx
import Derived.Test.YtkaffmlppfppeaaMBase
import Derived.Test.YtkaffmlppfppeaaMDraw
import Derived.Test.YtkaffmlppfppeaaMGrid
import Derived.Test.YtkaffmlppfppeaaMLists
namespace Go.Proofs.Ytkaffmlppfppeaa.QFnZones
open Go.RowKit Go.Proofs.Ytkaffmlppfppeaa.PFnZones Go.Proofs.YtkaffmlppfppeaaW.PrintWords Go.Proofs.YtkaffmlppfppeaaW.PrintLast Go.Proofs.YtkaffmlppfppeaaW.PrintMore Go.Proofs.Ytkaffmlppfppeaa.MBase Go.Proofs.Ytkaffmlppfppeaa.MDraw Go.Proofs.Ytkaffmlppfppeaa.MGrid Go.Proofs.Ytkaffmlppfppeaa.MLists
set_option linter.unusedVariables false
set_option linter.unusedSimpArgs false

/-! the cursor of a draw: each number that it gives lies below what was asked -/
theorem new_l0 (b : List Int) (m : Nat) : ∀ (j : Nat) (h : Int), j + m = 4000 → ∃ h', Ev (fun k => spec_l01New.l0 k b h j) (b, 0, h') := by
  induction m with
  | zero =>
    intro j h hj
    refine ⟨h, Ev.step (f := fun _ => some (b, 0, h)) (fun k => ?_) (Ev.now _)⟩
    by_cases hl : (j : Int) < b.length
    · rw [spec_l01New.l0, if_pos hl, if_neg (by omega)]
    · rw [spec_l01New.l0, if_neg hl]
  | succ m ih =>
    intro j h hj
    by_cases hl : (j : Int) < b.length
    · obtain ⟨h', e⟩ := ih (j + 1) (bits .and .i64 (wrap64 ((wrap64 ((wrap64 (h * 131)) + (wrap64 (rd b (j : Int))))) + 7)) 1073741823) (by omega)
      have hw3 : wrap64 ((j : Int) + 1) = ((j + 1 : Nat) : Int) := by rw [w64 (by omega) (by omega)]; omega
      exact ⟨h', Ev.step (fun k => by rw [spec_l01New.l0, if_pos hl, if_pos (by omega), if_pos (by omega), hw3]) e⟩
    · exact ⟨h, Ev.step (f := fun _ => some (b, 0, h)) (fun k => by rw [spec_l01New.l0, if_neg hl]) (Ev.now _)⟩

theorem new_ev (b : List Int) : ∃ h, Ev (fun k => spec_l01New.f k b) (b, 0, h) := new_l0 b 4000 0 _ (by omega)

theorem byte_ok (b : List Int) (hb : b.length ≤ maxLen) (i h : Int) (hi : 0 ≤ i) : ∃ x i' h', spec_l01Byte.f b i h = some (x, i', h') ∧ 0 ≤ x ∧ x ≤ 255 ∧ 0 ≤ i' := by
  unfold spec_l01Byte.f
  unfold maxLen at hb
  by_cases hl : i < b.length
  · rw [if_pos hl, if_pos hi]
    exact ⟨_, _, _, rfl, (and255 _).1, (and255 _).2, by rw [w64 (by omega) (by omega)]; omega⟩
  · rw [if_neg hl]
    exact ⟨_, _, _, rfl, (and255 _).1, (and255 _).2, hi⟩

theorem below_ok (b : List Int) (hb : b.length ≤ maxLen) (i h : Int) (hi : 0 ≤ i) (n : Int) : ∃ x i' h', spec_l01Below.f b i h n = some (x, i', h') ∧ 0 ≤ x ∧ (0 < n → x < n) ∧ (n ≤ 0 → x = 0) ∧ 0 ≤ i' := by
  unfold spec_l01Below.f
  by_cases h0 : n ≤ 0
  · rw [if_pos h0]
    exact ⟨0, i, h, rfl, Int.le_refl _, fun hh => by omega, fun _ => rfl, hi⟩
  have hn : ¬ n = 0 := by omega
  by_cases h1 : n ≤ 256
  · obtain ⟨x, i', h', e, x0, x1, hi'⟩ := byte_ok b hb i h hi
    have t := tmod_lt x0 (show 0 < n by omega)
    exact ⟨Int.tmod x n, i', h', by rw [if_neg h0, if_pos h1, e, Option.bind_some, if_neg hn], t.1, fun _ => t.2, fun hh => by omega, hi'⟩
  · obtain ⟨x, i1, h1', e1, x0, x1, hi1⟩ := byte_ok b hb i h hi
    obtain ⟨y, i2, h2', e2, y0, y1, hi2⟩ := byte_ok b hb i1 h1' hi1
    obtain ⟨z, i3, h3', e3, z0, z1, hi3⟩ := byte_ok b hb i2 h2' hi2
    obtain ⟨u, i4, h4', e4, u0, u1, hi4⟩ := byte_ok b hb i3 h3' hi3
    have hv : 0 ≤ wrap64 ((wrap64 ((wrap64 ((wrap64 (x * 16777216)) + (wrap64 (y * 65536)))) + (wrap64 (z * 256)))) + u) := by
      rw [w64 (x := x * 16777216) (by omega) (by omega), w64 (x := y * 65536) (by omega) (by omega), w64 (x := z * 256) (by omega) (by omega), w64 (x := x * 16777216 + y * 65536) (by omega) (by omega), w64 (x := x * 16777216 + y * 65536 + z * 256) (by omega) (by omega), w64 (by omega) (by omega)]
      omega
    have t := tmod_lt hv (show 0 < n by omega)
    exact ⟨_, i4, h4', by rw [if_neg h0, if_neg h1, e1, Option.bind_some, e2, Option.bind_some, e3, Option.bind_some, e4, Option.bind_some, if_neg hn], t.1, fun _ => t.2, fun hh => by omega, hi4⟩

/-! spec.l02Sized and spec.l02Right: a right map -/
theorem sized_l0 (b : List Int) (hb : b.length ≤ maxLen) (w h : Int) (N : Nat) (hN : N ≤ 64) (hwh : wrap64 (w * h) = N) (m : Nat) : ∀ (j : Nat) (acc : List Int) (i hh : Int), j + m = N → acc.length = j → (∀ z, z ∈ acc → 0 ≤ z ∧ z < 256 ∧ cellOk z = true) → 0 ≤ i →
    ∃ (xs : List Int) (i' h' : Int), xs.length = N ∧ (∀ z, z ∈ xs → 0 ≤ z ∧ z < 256 ∧ cellOk z = true) ∧ 0 ≤ i' ∧ Ev (fun k => spec_l02Sized.l0 k w h acc j b i hh) (w, h, strOfNums xs, i', h') := by
  induction m with
  | zero =>
    intro j acc i hh hj ha hz hi
    exact ⟨acc, i, hh, by omega, hz, hi, Ev.step (f := fun _ => some (w, h, strOfNums acc, i, hh)) (fun k => by rw [spec_l02Sized.l0, hwh, if_neg (by omega)]) (Ev.now _)⟩
  | succ m ih =>
    intro j acc i hh hj ha hz hi
    have hw3 : wrap64 ((j : Int) + 1) = ((j + 1 : Nat) : Int) := by rw [w64 (by omega) (by omega)]; omega
    have put : ∀ (v i' h' : Int), 0 ≤ v → v < 256 → cellOk v = true → 0 ≤ i' → ∃ (xs : List Int) (i2 h2 : Int), xs.length = N ∧ (∀ z, z ∈ xs → 0 ≤ z ∧ z < 256 ∧ cellOk z = true) ∧ 0 ≤ i2 ∧ Ev (fun k => spec_l02Sized.l0 k w h (acc ++ [v]) ((j + 1 : Nat) : Int) b i' h') (w, h, strOfNums xs, i2, h2) := fun v i' h' v0 v1 vc hi' =>
      ih (j + 1) (acc ++ [v]) i' h' (by omega) (by simp; omega) (fun z hm => by
        rcases List.mem_append.1 hm with h1 | h1
        · exact hz z h1
        · rw [List.mem_singleton.1 h1]; exact ⟨v0, v1, vc⟩) hi'
    obtain ⟨x, i1, h1, e, x0, x1, _, hi1⟩ := below_ok b hb i hh hi 8
    have hx := x1 (by omega)
    by_cases c0 : x = 0
    · obtain ⟨xs, i2, h2, r1, r2, r3, r4⟩ := put 35 i1 h1 (by omega) (by omega) (by decide) hi1
      exact ⟨xs, i2, h2, r1, r2, r3, Ev.step (fun k => by rw [spec_l02Sized.l0, hwh, if_pos (by omega), e, Option.bind_some, if_pos c0, if_pos (by omega), hw3]) r4⟩
    · have go1 : ∀ t : Bool, ∃ (xs : List Int) (i2 h2 : Int), xs.length = N ∧ (∀ z, z ∈ xs → 0 ≤ z ∧ z < 256 ∧ cellOk z = true) ∧ 0 ≤ i2 ∧ Ev (fun k => spec_l02Sized.j1 k w h acc j x t b i1 h1) (w, h, strOfNums xs, i2, h2) := fun t => by
        cases t with
        | true =>
          obtain ⟨y, i3, h3, e3, y0, y1, _, hi3⟩ := below_ok b hb i1 h1 hi1 3
          have hy := y1 (by omega)
          have hv : (wrap64 (65 + y)) % 256 = 65 + y := by rw [w64 (by omega) (by omega)]; omega
          obtain ⟨xs, i2, h2, r1, r2, r3, r4⟩ := put (65 + y) i3 h3 (by omega) (by omega) (decide_eq_true (.inr (.inr (.inr ⟨by omega, by omega⟩)))) hi3
          exact ⟨xs, i2, h2, r1, r2, r3, Ev.step (fun k => by rw [spec_l02Sized.j1, if_pos rfl, e3, Option.bind_some, if_pos (by omega), hv, hw3]) r4⟩
        | false =>
          by_cases c3 : x = 3
          · obtain ⟨y, i3, h3, e3, y0, y1, _, hi3⟩ := below_ok b hb i1 h1 hi1 6
            have hy := y1 (by omega)
            have hv : (wrap64 (97 + y)) % 256 = 97 + y := by rw [w64 (by omega) (by omega)]; omega
            obtain ⟨xs, i2, h2, r1, r2, r3, r4⟩ := put (97 + y) i3 h3 (by omega) (by omega) (decide_eq_true (.inr (.inr (.inl ⟨by omega, by omega⟩)))) hi3
            exact ⟨xs, i2, h2, r1, r2, r3, Ev.step (fun k => by rw [spec_l02Sized.j1, if_neg (by simp), if_pos c3, e3, Option.bind_some, if_pos (by omega), hv, hw3]) r4⟩
          · obtain ⟨xs, i2, h2, r1, r2, r3, r4⟩ := put 46 i1 h1 (by omega) (by omega) (by decide) hi1
            exact ⟨xs, i2, h2, r1, r2, r3, Ev.step (fun k => by rw [spec_l02Sized.j1, if_neg (by simp), if_neg c3, if_pos (by omega), hw3]) r4⟩
      by_cases c1 : x = 1
      · obtain ⟨xs, i2, h2, r1, r2, r3, r4⟩ := go1 (x == 1)
        exact ⟨xs, i2, h2, r1, r2, r3, Ev.step (fun k => by rw [spec_l02Sized.l0, hwh, if_pos (by omega), e, Option.bind_some, if_neg c0, if_pos c1]) r4⟩
      · obtain ⟨xs, i2, h2, r1, r2, r3, r4⟩ := go1 (x == 2)
        exact ⟨xs, i2, h2, r1, r2, r3, Ev.step (fun k => by rw [spec_l02Sized.l0, hwh, if_pos (by omega), e, Option.bind_some, if_neg c0, if_neg c1]) r4⟩

theorem sized_grid {w h : Int} {xs : List Int} (hw : 1 ≤ w ∧ w ≤ 8) (hh : 1 ≤ h ∧ h ≤ 8) (hl : (xs.length : Int) = w * h) (hz : ∀ z, z ∈ xs → 0 ≤ z ∧ z < 256 ∧ cellOk z = true) : gridOk w h (strOfNums xs) = true := by
  have hs := strOfNums_size xs
  unfold gridOk
  rw [Bool.and_eq_true, cellsOk_iff]
  refine ⟨decide_eq_true ⟨hw.1, hw.2, hh.1, hh.2, by rw [hs]; exact hl⟩, fun j hj => ?_⟩
  rw [hs] at hj
  have hm := hz _ (getD_mem' hj)
  rw [Int.zero_add, strNums_bt xs j hj hm.1 hm.2.1]
  exact hm.2.2

theorem right_ev (b : List Int) (hb : b.length ≤ maxLen) (i hh : Int) (hi : 0 ≤ i) : ∃ (w h : Int) (c : ByteArray) (i' h' : Int), gridOk w h c = true ∧ 0 ≤ i' ∧ Ev (fun k => spec_l02Right.f k b i hh) (w, h, c, i', h') := by
  obtain ⟨x, i1, h1, e1, x0, x1, _, hi1⟩ := below_ok b hb i hh hi 3
  obtain ⟨y, i2, h2, e2, y0, y1, _, hi2⟩ := below_ok b hb i1 h1 hi1 3
  have hx := x1 (by omega)
  have hy := y1 (by omega)
  have wx : wrap64 (2 + x) = 2 + x := w64 (by omega) (by omega)
  have wy : wrap64 (2 + y) = 2 + y := w64 (by omega) (by omega)
  have hm := side_mul (w := 2 + x) (h := 2 + y) (by omega) (by omega) (by omega) (by omega)
  obtain ⟨xs, i3, h3, r1, r2, r3, r4⟩ := sized_l0 b hb (2 + x) (2 + y) ((2 + x) * (2 + y)).toNat (by omega) (by rw [w64 (by omega) (by omega)]; omega) ((2 + x) * (2 + y)).toNat 0 [] i2 h2 (by omega) rfl (fun z hz => by cases hz) hi2
  have r5 : Ev (fun k => spec_l02Sized.f k b i2 h2 (2 + x) (2 + y)) (2 + x, 2 + y, strOfNums xs, i3, h3) := r4
  refine ⟨2 + x, 2 + y, strOfNums xs, i3, h3, sized_grid ⟨by omega, by omega⟩ ⟨by omega, by omega⟩ (by omega) r2, r3, ?_⟩
  refine Ev.congr (fun k => by unfold spec_l02Right.f; rw [e1, Option.bind_some, e2, Option.bind_some, wx, wy]) (Ev.bind r5 (Ev.now _))

/-! spec.DrawMap: a right map -/
theorem drawMap_ev (b : List Int) (hb : b.length ≤ maxLen) : ∃ (w h : Int) (c : ByteArray), gridOk w h c = true ∧ Ev (fun k => spec_DrawMap.f k b) (w, h, c) := by
  obtain ⟨h0, e0⟩ := new_ev b
  obtain ⟨w, h, c, i1, h1, g, hi1, e1⟩ := right_ev b hb 0 h0 (Int.le_refl _)
  exact ⟨w, h, c, g, Ev.bind e0 (Ev.bind e1 (Ev.now _))⟩

/-! impl.GridOk -/
theorem impl_cells (w h : Int) (c : ByteArray) (hc : c.size ≤ 64) (d : Nat) : ∀ i : Int, 0 ≤ i → i + d = c.size → Ev (fun k => impl_GridOk.l0 k i w h c) (cellsOk c d i) := by
  induction d with
  | zero => intro i h0 h1; exact Ev.step (f := fun _ => some true) (fun k => by rw [impl_GridOk.l0, if_neg (by omega)]) (Ev.now _)
  | succ d ih =>
    intro i h0 h1
    rw [cellsOk]
    have hnext := ih (i + 1) (by omega) (by omega)
    have hw : wrap64 (i + 1) = i + 1 := w64 (by omega) (by omega)
    cases hk : cellOk (bt c i) with
    | true =>
      have hk2 := of_decide_eq_true hk
      refine Ev.step (f := fun k => impl_GridOk.l0 k (i + 1) w h c) (fun k => ?_) hnext
      rw [impl_GridOk.l0, if_pos (by omega), if_pos h0, hw]
      repeat' split
      all_goals first | rfl | omega
    | false =>
      have hk2 := of_decide_eq_false hk
      refine Ev.step (f := fun k => some false) (fun k => ?_) (Ev.now _)
      rw [impl_GridOk.l0, if_pos (by omega), if_pos h0, hw]
      repeat' split
      all_goals first | rfl | omega

theorem iGridOk (w h : Int) (c : ByteArray) : Ev (fun k => impl_GridOk.f k w h c) (gridOk w h c) := by
  have bad : ∀ hn : ¬ sideOk w h c, Ev (fun k => impl_GridOk.j0 k true w h c) (gridOk w h c) := fun hn => by
    have : gridOk w h c = false := by unfold gridOk; rw [decide_eq_false hn]; rfl
    rw [this]
    exact Ev.step (fun k => by rw [impl_GridOk.j0, if_pos rfl]) (Ev.now _)
  by_cases h1 : w < 1
  · exact Ev.congr (fun k => by unfold impl_GridOk.f; rw [if_pos h1]) (bad (fun hs => by have := hs.1; omega))
  by_cases h2 : w > 8
  · exact Ev.congr (fun k => by unfold impl_GridOk.f; rw [if_neg h1, if_pos h2]) (bad (fun hs => by have := hs.2.1; omega))
  by_cases h3 : h < 1
  · exact Ev.congr (fun k => by unfold impl_GridOk.f; rw [if_neg h1, if_neg h2, if_pos h3]) (bad (fun hs => by have := hs.2.2.1; omega))
  by_cases h4 : h > 8
  · exact Ev.congr (fun k => by unfold impl_GridOk.f; rw [if_neg h1, if_neg h2, if_neg h3, if_pos h4]) (bad (fun hs => by have := hs.2.2.2.1; omega))
  have hm := side_mul (w := w) (h := h) (by omega) (by omega) (by omega) (by omega)
  have hw : wrap64 (w * h) = w * h := w64 (by omega) (by omega)
  refine Ev.congr (fun k => by unfold impl_GridOk.f; rw [if_neg h1, if_neg h2, if_neg h3, if_neg h4, hw]) ?_
  by_cases h5 : (c.size : Int) = w * h
  · have : gridOk w h c = cellsOk c c.size 0 := by unfold gridOk; rw [decide_eq_true (show sideOk w h c from ⟨by omega, by omega, by omega, by omega, h5⟩)]; rfl
    rw [this]
    exact Ev.step (fun k => by rw [impl_GridOk.j0, if_neg (by simpa using h5)]) (impl_cells w h c (by omega) c.size 0 (by omega) (by omega))
  · have : ((c.size : Int) != w * h) = true := by simpa using h5
    rw [this]
    exact bad (fun hs => h5 hs.2.2.2.2)

/-! impl.isFree -/
theorem isFree_eq {w h : Int} {c : ByteArray} (g : gridOk w h c = true) (x : Int) : impl_isFree.f w h c x = some (freeAt w h c x) := by
  unfold freeAt impl_isFree.f
  rw [g]
  simp only [Bool.true_and]
  by_cases h0 : x ≥ 0
  · by_cases h1 : x < (c.size : Int)
    · rw [if_pos h0, if_pos h1, if_pos (by omega), decide_eq_true (show 0 ≤ x ∧ x < (c.size : Int) from ⟨h0, h1⟩), Bool.true_and]
      congr 1
      rw [Bool.eq_iff_iff, bne_iff_ne, decide_eq_true_eq]
    · rw [if_pos h0, if_neg h1, decide_eq_false (fun hh : 0 ≤ x ∧ x < (c.size : Int) => h1 hh.2)]
      rfl
  · rw [if_neg h0, decide_eq_false (fun hh : 0 ≤ x ∧ x < (c.size : Int) => h0 hh.1)]
    rfl

/-! impl.FreeCells -/
theorem iFree_l0 {w h : Int} {c : ByteArray} (g : gridOk w h c = true) (d : Nat) : ∀ (i : Int) (acc : List Int), 0 ≤ i → i + d = c.size → acc.length + d ≤ 100 →
    Ev (fun k => impl_FreeCells.l0 k acc i w h c) (acc ++ freeList c d i) := by
  have hs := gridOk_size g
  induction d with
  | zero =>
    intro i acc h0 h1 h2
    rw [freeList, List.append_nil]
    exact Ev.step (f := fun _ => some acc) (fun k => by rw [impl_FreeCells.l0, if_neg (by omega)]) (Ev.now _)
  | succ d ih =>
    intro i acc h0 h1 h2
    have hw : wrap64 (i + 1) = i + 1 := w64 (by omega) (by omega)
    rw [freeList]
    by_cases hb : bt c i ≠ 35
    · rw [if_pos hb, ← List.append_assoc]
      exact Ev.step (fun k => by rw [impl_FreeCells.l0, if_pos (by omega), isFree_eq g, freeAt_in g h0 (by omega), decide_eq_true hb, Option.bind_some, if_pos rfl, if_pos (by omega), hw]) (ih (i + 1) (acc ++ [i]) (by omega) (by omega) (by simp; omega))
    · rw [if_neg hb, List.nil_append]
      exact Ev.step (fun k => by rw [impl_FreeCells.l0, if_pos (by omega), isFree_eq g, freeAt_in g h0 (by omega), decide_eq_false hb, Option.bind_some, if_neg (by simp), hw]) (ih (i + 1) acc (by omega) (by omega) (by omega))

theorem iFreeCells (w h : Int) (c : ByteArray) : Ev (fun k => impl_FreeCells.f k w h c) (freeCells w h c) := by
  refine Ev.bind (iGridOk w h c) ?_
  unfold freeCells
  cases g : gridOk w h c with
  | false => exact Ev.of_eq fun k => by rw [if_neg (by simp), if_neg (by simp)]
  | true =>
    rw [if_pos rfl]
    have hs := gridOk_size g
    have h0 := iFree_l0 g c.size 0 [] (by omega) (by omega) (by simp; omega)
    rw [List.nil_append] at h0
    exact Ev.congr (fun k => by rw [if_pos rfl]) h0

/-! impl.ParkAt -/
theorem iParkAt (w h : Int) (c : ByteArray) (x : Int) : Ev (fun k => impl_ParkAt.f k w h c x) (parkAt w h c x) := by
  refine Ev.bind (iGridOk w h c) ?_
  unfold parkAt
  cases hg : gridOk w h c with
  | false => simp only [Bool.false_eq_true, if_false, Bool.false_and]; exact Ev.now _
  | true =>
    simp only [if_true, Bool.true_and]
    by_cases h0 : x ≥ 0
    · by_cases h1 : x < (c.size : Int)
      · refine Ev.of_eq fun k => ?_
        rw [if_pos h0, if_pos h1, if_pos (by omega), decide_eq_true (show 0 ≤ x ∧ x < (c.size : Int) from ⟨h0, h1⟩), Bool.true_and]
        by_cases h2 : bt c x ≥ 65
        · rw [if_pos h2]; congr 1; rw [decide_eq_decide]; omega
        · rw [if_neg h2]; congr 1; rw [eq_comm, decide_eq_false_iff_not]; omega
      · refine Ev.of_eq fun k => ?_
        rw [if_pos h0, if_neg h1, decide_eq_false (fun hh : 0 ≤ x ∧ x < (c.size : Int) => h1 hh.2)]
        rfl
    · refine Ev.of_eq fun k => ?_
      rw [if_neg h0, decide_eq_false (fun hh : 0 ≤ x ∧ x < (c.size : Int) => h0 hh.1)]
      rfl

/-! impl.ZoneOf -/
theorem iZoneOf (w h : Int) (c : ByteArray) (x : Int) : Ev (fun k => impl_ZoneOf.f k w h c x) (zoneOf w h c x) := by
  refine Ev.bind (iGridOk w h c) ?_
  have hb := bt_range c x
  have out : ∀ hn : ¬ (gridOk w h c = true ∧ 0 ≤ x ∧ x < c.size), Ev (fun k => impl_ZoneOf.j0 k x true w h c) (zoneOf w h c x) := fun hn => by
    have : zoneOf w h c x = -1 := by unfold zoneOf; rw [if_neg hn]
    rw [this]
    exact Ev.step (f := fun _ => some (-1)) (fun k => by rw [impl_ZoneOf.j0, if_pos rfl]) (Ev.now _)
  cases hg : gridOk w h c with
  | false => exact Ev.congr (fun k => by rw [if_neg (by simp)]) (out (by simp [hg]))
  | true =>
    by_cases h0 : x < 0
    · exact Ev.congr (fun k => by rw [if_pos rfl, if_pos h0]) (out (by omega))
    · by_cases h1 : x ≥ (c.size : Int)
      · exact Ev.congr (fun k => by rw [if_pos rfl, if_neg h0, decide_eq_true h1]) (out (by omega))
      · refine Ev.congr (fun k => by rw [if_pos rfl, if_neg h0, decide_eq_false h1]) ?_
        unfold zoneOf
        rw [if_pos ⟨hg, by omega, by omega⟩]
        have j1 : ∀ (b : Int) (q : Bool), (q = true ↔ 97 ≤ b ∧ b ≤ 102) → 0 ≤ b → b ≤ 255 → Ev (fun k => impl_ZoneOf.j1 k b q) (if 97 ≤ b ∧ b ≤ 102 then b - 97 else if 65 ≤ b ∧ b ≤ 70 then b - 65 else -1) := fun b q hq hb0 hb1 => by
          by_cases hz : 97 ≤ b ∧ b ≤ 102
          · rw [if_pos hz]
            exact Ev.step (f := fun _ => some (b - 97)) (fun k => by rw [impl_ZoneOf.j1, if_pos (hq.mpr hz), Int.emod_eq_of_lt (by omega) (by omega)]) (Ev.now _)
          · rw [if_neg hz]
            have hq' : ¬ q = true := fun hh => hz (hq.mp hh)
            by_cases h65 : b ≥ 65
            · by_cases h70 : b ≤ 70
              · rw [if_pos ⟨h65, h70⟩]
                exact Ev.step (f := fun _ => some (b - 65)) (fun k => by rw [impl_ZoneOf.j1, if_neg hq', if_pos h65, if_pos h70, Int.emod_eq_of_lt (by omega) (by omega)]) (Ev.now _)
              · rw [if_neg (by omega)]
                exact Ev.step (f := fun _ => some (-1)) (fun k => by rw [impl_ZoneOf.j1, if_neg hq', if_pos h65, if_neg h70]) (Ev.now _)
            · rw [if_neg (by omega)]
              exact Ev.step (f := fun _ => some (-1)) (fun k => by rw [impl_ZoneOf.j1, if_neg hq', if_neg h65]) (Ev.now _)
        by_cases h97 : bt c x ≥ 97
        · exact Ev.step (fun k => by rw [impl_ZoneOf.j0, if_neg (by simp), if_pos (by omega), if_pos (by omega), if_pos h97]) (j1 (bt c x) _ (by simp; omega) hb.1 hb.2)
        · exact Ev.step (fun k => by rw [impl_ZoneOf.j0, if_neg (by simp), if_pos (by omega), if_pos (by omega), if_neg h97]) (j1 (bt c x) _ (by simp; omega) hb.1 hb.2)

/-! impl.ParksIn -/
theorem iParks_l0 (w h : Int) (c : ByteArray) (z : Int) (xs : List Int) (hx : xs.length ≤ 64) (d : Nat) : ∀ (i : Nat) (acc : List Int), i + d = xs.length → acc.length + d ≤ 100 →
    Ev (fun k => impl_ParksIn.l0 k z acc xs (xs.length : Int) i w h c) (acc ++ (xs.drop i).filter (isPark w h c z)) := by
  induction d with
  | zero =>
    intro i acc h1 h2
    rw [List.drop_eq_nil_of_le (by omega), List.filter_nil, List.append_nil]
    exact Ev.step (f := fun _ => some acc) (fun k => by rw [impl_ParksIn.l0, if_neg (by omega)]) (Ev.now _)
  | succ d ih =>
    intro i acc h1 h2
    have hi : i < xs.length := by omega
    have g1 : (i : Int) < (xs.length : Int) := by omega
    have g2 : (0 : Int) ≤ (i : Int) := by omega
    have hw : wrap64 ((i : Int) + 1) = ((i + 1 : Nat) : Int) := by rw [w64 (by omega) (by omega)]; omega
    have e : rd xs (i : Int) = xs.getD i 0 := by unfold rd; rw [Int.toNat_natCast]
    have hacc : acc.length < 17592186044416 := by omega
    rw [drop_cons xs i 0 hi]
    generalize xs.getD i 0 = v at e
    refine Ev.step (fun k => by rw [impl_ParksIn.l0, if_pos g1, if_pos g2, if_pos g1, e]) (Ev.bind (iParkAt w h c v) ?_)
    rw [List.filter_cons]
    unfold isPark
    cases hp : parkAt w h c v with
    | false =>
      have h0 := ih (i + 1) acc (by omega) (by omega)
      exact Ev.congr (fun k => by rw [if_neg (by simp), hw]) h0
    | true =>
      refine Ev.congr (fun k => by rw [if_pos rfl]) (Ev.bind (iZoneOf w h c v) ?_)
      by_cases hz : zoneOf w h c v = z
      · rw [decide_eq_true hz, Bool.true_and, if_pos rfl]
        have h0 := ih (i + 1) (acc ++ [v]) (by omega) (by rw [List.length_append]; simp; omega)
        rw [List.append_assoc] at h0
        exact Ev.congr (fun k => by rw [if_pos hz, if_pos hacc, hw]) h0
      · rw [decide_eq_false hz, Bool.true_and, if_neg (by simp)]
        have h0 := ih (i + 1) acc (by omega) (by omega)
        exact Ev.congr (fun k => by rw [if_neg hz, hw]) h0

theorem iParksIn (w h : Int) (c : ByteArray) (z : Int) : Ev (fun k => impl_ParksIn.f k w h c z) (parksIn w h c z) := by
  have hl := freeCells_len w h c
  have h0 := iParks_l0 w h c z (freeCells w h c) hl (freeCells w h c).length 0 [] (Nat.zero_add _) (by simp; omega)
  rw [List.drop_zero, List.nil_append, show ((0 : Nat) : Int) = 0 from rfl] at h0
  have e : (freeCells w h c).filter (isPark w h c z) = parksIn w h c z := by
    unfold freeCells parksIn
    split
    · exact parkL_filter w h c z _ _
    · rfl
  rw [e] at h0
  exact Ev.bind (iFreeCells w h c) h0

/-! impl.FreeAt -/
theorem iFreeAt (w h : Int) (c : ByteArray) (x : Int) : Ev (fun k => impl_FreeAt.f k w h c x) (freeAt w h c x) := by
  refine Ev.bind (iGridOk w h c) ?_
  cases hg : gridOk w h c with
  | false => simp only [Bool.false_eq_true, if_false, freeAt, hg, Bool.false_and]; exact Ev.now _
  | true => simp only [if_true, isFree_eq hg, Option.bind_some]; exact Ev.now _

end Go.Proofs.Ytkaffmlppfppeaa.QFnZones

/- What the functions that the law FnHomes reaches compute: DrawCur, DrawRight, GridOkS, FreeAtS, FreeCellsS, Has, DrawSome, AnswerA, GridOkI, isFree, AroundI, AroundIA. -/
import Derived.Test.YtabepbkolmimlaaPFnHomesx
import Derived.Test.YtabepbkolmimlaaMBase
import Derived.Test.YtabepbkolmimlaaMDraw
import Derived.Test.YtabepbkolmimlaaMGrid
import Derived.Test.YtabepbkolmimlaaMLists
import Derived.Test.YtabepbkolmimlaaMSteps
import Derived.Test.YtabepbkolmimlaaMScan
namespace Go.Proofs.Ytabepbkolmimlaa.QFnHomes
open Go.RowKit Go.Proofs.Ytabepbkolmimlaa.PFnHomes Go.Proofs.YtabepbkolmimlaaW.PrintWords Go.Proofs.YtabepbkolmimlaaW.PrintLast Go.Proofs.YtabepbkolmimlaaW.PrintMore Go.Proofs.Ytabepbkolmimlaa.MBase Go.Proofs.Ytabepbkolmimlaa.MDraw Go.Proofs.Ytabepbkolmimlaa.MGrid Go.Proofs.Ytabepbkolmimlaa.MLists Go.Proofs.Ytabepbkolmimlaa.MSteps Go.Proofs.Ytabepbkolmimlaa.MScan
set_option linter.unusedVariables false
set_option linter.unusedSimpArgs false

/-! the cursor of a draw: each number that it gives lies below what was asked -/
theorem new_l0 (b : List Int) (m : Nat) : ∀ (j : Nat) (h : Int), j + m = 4000 → ∃ h', Ev (fun k => spec_l01New.l0 k b h j) (b, 0, h') := by
  induction m with
  | zero =>
    intro j h hj
    refine ⟨h, Ev.step (f := fun _ => some (b, 0, h)) (fun k => ?_) (Ev.now _)⟩
    by_cases hl : (j : Int) < b.length
    · rw [spec_l01New.l0, if_pos hl, if_neg (by omega)]
    · rw [spec_l01New.l0, if_neg hl]
  | succ m ih =>
    intro j h hj
    by_cases hl : (j : Int) < b.length
    · obtain ⟨h', e⟩ := ih (j + 1) (bits .and .i64 (wrap64 ((wrap64 ((wrap64 (h * 131)) + (wrap64 (rd b (j : Int))))) + 7)) 1073741823) (by omega)
      have hw3 : wrap64 ((j : Int) + 1) = ((j + 1 : Nat) : Int) := by rw [w64 (by omega) (by omega)]; omega
      exact ⟨h', Ev.step (fun k => by rw [spec_l01New.l0, if_pos hl, if_pos (by omega), if_pos (by omega), hw3]) e⟩
    · exact ⟨h, Ev.step (f := fun _ => some (b, 0, h)) (fun k => by rw [spec_l01New.l0, if_neg hl]) (Ev.now _)⟩

theorem new_ev (b : List Int) : ∃ h, Ev (fun k => spec_l01New.f k b) (b, 0, h) := new_l0 b 4000 0 _ (by omega)

theorem byte_ok (b : List Int) (hb : b.length ≤ maxLen) (i h : Int) (hi : 0 ≤ i) : ∃ x i' h', spec_l01Byte.f b i h = some (x, i', h') ∧ 0 ≤ x ∧ x ≤ 255 ∧ 0 ≤ i' := by
  unfold spec_l01Byte.f
  unfold maxLen at hb
  by_cases hl : i < b.length
  · rw [if_pos hl, if_pos hi]
    exact ⟨_, _, _, rfl, (and255 _).1, (and255 _).2, by rw [w64 (by omega) (by omega)]; omega⟩
  · rw [if_neg hl]
    exact ⟨_, _, _, rfl, (and255 _).1, (and255 _).2, hi⟩

theorem below_ok (b : List Int) (hb : b.length ≤ maxLen) (i h : Int) (hi : 0 ≤ i) (n : Int) : ∃ x i' h', spec_l01Below.f b i h n = some (x, i', h') ∧ 0 ≤ x ∧ (0 < n → x < n) ∧ (n ≤ 0 → x = 0) ∧ 0 ≤ i' := by
  unfold spec_l01Below.f
  by_cases h0 : n ≤ 0
  · rw [if_pos h0]
    exact ⟨0, i, h, rfl, Int.le_refl _, fun hh => by omega, fun _ => rfl, hi⟩
  have hn : ¬ n = 0 := by omega
  by_cases h1 : n ≤ 256
  · obtain ⟨x, i', h', e, x0, x1, hi'⟩ := byte_ok b hb i h hi
    have t := tmod_lt x0 (show 0 < n by omega)
    exact ⟨Int.tmod x n, i', h', by rw [if_neg h0, if_pos h1, e, Option.bind_some, if_neg hn], t.1, fun _ => t.2, fun hh => by omega, hi'⟩
  · obtain ⟨x, i1, h1', e1, x0, x1, hi1⟩ := byte_ok b hb i h hi
    obtain ⟨y, i2, h2', e2, y0, y1, hi2⟩ := byte_ok b hb i1 h1' hi1
    obtain ⟨z, i3, h3', e3, z0, z1, hi3⟩ := byte_ok b hb i2 h2' hi2
    obtain ⟨u, i4, h4', e4, u0, u1, hi4⟩ := byte_ok b hb i3 h3' hi3
    have hv : 0 ≤ wrap64 ((wrap64 ((wrap64 ((wrap64 (x * 16777216)) + (wrap64 (y * 65536)))) + (wrap64 (z * 256)))) + u) := by
      rw [w64 (x := x * 16777216) (by omega) (by omega), w64 (x := y * 65536) (by omega) (by omega), w64 (x := z * 256) (by omega) (by omega), w64 (x := x * 16777216 + y * 65536) (by omega) (by omega), w64 (x := x * 16777216 + y * 65536 + z * 256) (by omega) (by omega), w64 (by omega) (by omega)]
      omega
    have t := tmod_lt hv (show 0 < n by omega)
    exact ⟨_, i4, h4', by rw [if_neg h0, if_neg h1, e1, Option.bind_some, e2, Option.bind_some, e3, Option.bind_some, e4, Option.bind_some, if_neg hn], t.1, fun _ => t.2, fun hh => by omega, hi4⟩

/-! spec.l02Sized and spec.l02Right: a right map -/
theorem sized_l0 (b : List Int) (hb : b.length ≤ maxLen) (w h : Int) (N : Nat) (hN : N ≤ 64) (hwh : wrap64 (w * h) = N) (m : Nat) : ∀ (j : Nat) (acc : List Int) (i hh : Int), j + m = N → acc.length = j → (∀ z, z ∈ acc → 0 ≤ z ∧ z < 256 ∧ cellOk z = true) → 0 ≤ i →
    ∃ (xs : List Int) (i' h' : Int), xs.length = N ∧ (∀ z, z ∈ xs → 0 ≤ z ∧ z < 256 ∧ cellOk z = true) ∧ 0 ≤ i' ∧ Ev (fun k => spec_l02Sized.l0 k w h acc j b i hh) (w, h, strOfNums xs, i', h') := by
  induction m with
  | zero =>
    intro j acc i hh hj ha hz hi
    exact ⟨acc, i, hh, by omega, hz, hi, Ev.step (f := fun _ => some (w, h, strOfNums acc, i, hh)) (fun k => by rw [spec_l02Sized.l0, hwh, if_neg (by omega)]) (Ev.now _)⟩
  | succ m ih =>
    intro j acc i hh hj ha hz hi
    have hw3 : wrap64 ((j : Int) + 1) = ((j + 1 : Nat) : Int) := by rw [w64 (by omega) (by omega)]; omega
    have put : ∀ (v i' h' : Int), 0 ≤ v → v < 256 → cellOk v = true → 0 ≤ i' → ∃ (xs : List Int) (i2 h2 : Int), xs.length = N ∧ (∀ z, z ∈ xs → 0 ≤ z ∧ z < 256 ∧ cellOk z = true) ∧ 0 ≤ i2 ∧ Ev (fun k => spec_l02Sized.l0 k w h (acc ++ [v]) ((j + 1 : Nat) : Int) b i' h') (w, h, strOfNums xs, i2, h2) := fun v i' h' v0 v1 vc hi' =>
      ih (j + 1) (acc ++ [v]) i' h' (by omega) (by simp; omega) (fun z hm => by
        rcases List.mem_append.1 hm with h1 | h1
        · exact hz z h1
        · rw [List.mem_singleton.1 h1]; exact ⟨v0, v1, vc⟩) hi'
    obtain ⟨x, i1, h1, e, x0, x1, _, hi1⟩ := below_ok b hb i hh hi 8
    have hx := x1 (by omega)
    by_cases c0 : x = 0
    · obtain ⟨xs, i2, h2, r1, r2, r3, r4⟩ := put 35 i1 h1 (by omega) (by omega) (by decide) hi1
      exact ⟨xs, i2, h2, r1, r2, r3, Ev.step (fun k => by rw [spec_l02Sized.l0, hwh, if_pos (by omega), e, Option.bind_some, if_pos c0, if_pos (by omega), hw3]) r4⟩
    · have go1 : ∀ t : Bool, ∃ (xs : List Int) (i2 h2 : Int), xs.length = N ∧ (∀ z, z ∈ xs → 0 ≤ z ∧ z < 256 ∧ cellOk z = true) ∧ 0 ≤ i2 ∧ Ev (fun k => spec_l02Sized.j1 k w h acc j x t b i1 h1) (w, h, strOfNums xs, i2, h2) := fun t => by
        cases t with
        | true =>
          obtain ⟨y, i3, h3, e3, y0, y1, _, hi3⟩ := below_ok b hb i1 h1 hi1 3
          have hy := y1 (by omega)
          have hv : (wrap64 (65 + y)) % 256 = 65 + y := by rw [w64 (by omega) (by omega)]; omega
          obtain ⟨xs, i2, h2, r1, r2, r3, r4⟩ := put (65 + y) i3 h3 (by omega) (by omega) (decide_eq_true (.inr (.inr (.inr ⟨by omega, by omega⟩)))) hi3
          exact ⟨xs, i2, h2, r1, r2, r3, Ev.step (fun k => by rw [spec_l02Sized.j1, if_pos rfl, e3, Option.bind_some, if_pos (by omega), hv, hw3]) r4⟩
        | false =>
          by_cases c3 : x = 3
          · obtain ⟨y, i3, h3, e3, y0, y1, _, hi3⟩ := below_ok b hb i1 h1 hi1 6
            have hy := y1 (by omega)
            have hv : (wrap64 (97 + y)) % 256 = 97 + y := by rw [w64 (by omega) (by omega)]; omega
            obtain ⟨xs, i2, h2, r1, r2, r3, r4⟩ := put (97 + y) i3 h3 (by omega) (by omega) (decide_eq_true (.inr (.inr (.inl ⟨by omega, by omega⟩)))) hi3
            exact ⟨xs, i2, h2, r1, r2, r3, Ev.step (fun k => by rw [spec_l02Sized.j1, if_neg (by simp), if_pos c3, e3, Option.bind_some, if_pos (by omega), hv, hw3]) r4⟩
          · obtain ⟨xs, i2, h2, r1, r2, r3, r4⟩ := put 46 i1 h1 (by omega) (by omega) (by decide) hi1
            exact ⟨xs, i2, h2, r1, r2, r3, Ev.step (fun k => by rw [spec_l02Sized.j1, if_neg (by simp), if_neg c3, if_pos (by omega), hw3]) r4⟩
      by_cases c1 : x = 1
      · obtain ⟨xs, i2, h2, r1, r2, r3, r4⟩ := go1 (x == 1)
        exact ⟨xs, i2, h2, r1, r2, r3, Ev.step (fun k => by rw [spec_l02Sized.l0, hwh, if_pos (by omega), e, Option.bind_some, if_neg c0, if_pos c1]) r4⟩
      · obtain ⟨xs, i2, h2, r1, r2, r3, r4⟩ := go1 (x == 2)
        exact ⟨xs, i2, h2, r1, r2, r3, Ev.step (fun k => by rw [spec_l02Sized.l0, hwh, if_pos (by omega), e, Option.bind_some, if_neg c0, if_neg c1]) r4⟩

theorem sized_grid {w h : Int} {xs : List Int} (hw : 1 ≤ w ∧ w ≤ 8) (hh : 1 ≤ h ∧ h ≤ 8) (hl : (xs.length : Int) = w * h) (hz : ∀ z, z ∈ xs → 0 ≤ z ∧ z < 256 ∧ cellOk z = true) : gridOk w h (strOfNums xs) = true := by
  have hs := strOfNums_size xs
  unfold gridOk
  rw [Bool.and_eq_true, cellsOk_iff]
  refine ⟨decide_eq_true ⟨hw.1, hw.2, hh.1, hh.2, by rw [hs]; exact hl⟩, fun j hj => ?_⟩
  rw [hs] at hj
  have hm := hz _ (getD_mem' hj)
  rw [Int.zero_add, strNums_bt xs j hj hm.1 hm.2.1]
  exact hm.2.2

theorem right_ev (b : List Int) (hb : b.length ≤ maxLen) (i hh : Int) (hi : 0 ≤ i) : ∃ (w h : Int) (c : ByteArray) (i' h' : Int), gridOk w h c = true ∧ 0 ≤ i' ∧ Ev (fun k => spec_l02Right.f k b i hh) (w, h, c, i', h') := by
  obtain ⟨x, i1, h1, e1, x0, x1, _, hi1⟩ := below_ok b hb i hh hi 3
  obtain ⟨y, i2, h2, e2, y0, y1, _, hi2⟩ := below_ok b hb i1 h1 hi1 3
  have hx := x1 (by omega)
  have hy := y1 (by omega)
  have wx : wrap64 (2 + x) = 2 + x := w64 (by omega) (by omega)
  have wy : wrap64 (2 + y) = 2 + y := w64 (by omega) (by omega)
  have hm := side_mul (w := 2 + x) (h := 2 + y) (by omega) (by omega) (by omega) (by omega)
  obtain ⟨xs, i3, h3, r1, r2, r3, r4⟩ := sized_l0 b hb (2 + x) (2 + y) ((2 + x) * (2 + y)).toNat (by omega) (by rw [w64 (by omega) (by omega)]; omega) ((2 + x) * (2 + y)).toNat 0 [] i2 h2 (by omega) rfl (fun z hz => by cases hz) hi2
  have r5 : Ev (fun k => spec_l02Sized.f k b i2 h2 (2 + x) (2 + y)) (2 + x, 2 + y, strOfNums xs, i3, h3) := r4
  refine ⟨2 + x, 2 + y, strOfNums xs, i3, h3, sized_grid ⟨by omega, by omega⟩ ⟨by omega, by omega⟩ (by omega) r2, r3, ?_⟩
  refine Ev.congr (fun k => by unfold spec_l02Right.f; rw [e1, Option.bind_some, e2, Option.bind_some, wx, wy]) (Ev.bind r5 (Ev.now _))

/-! spec.GridOk -/
theorem l02Kind_eq (b : Int) : spec_l02Kind.f b = some (cellOk b) := by
  unfold spec_l02Kind.f cellOk
  repeat' split
  all_goals
    congr 1
    first
    | (rw [decide_eq_decide]; omega)
    | (rw [eq_comm, decide_eq_true_eq]; omega)
    | (rw [eq_comm, decide_eq_false_iff_not]; omega)

theorem spec_cells (w h : Int) (c : ByteArray) (hc : c.size ≤ 64) (d : Nat) : ∀ i : Int, 0 ≤ i → i + d = c.size → Ev (fun k => spec_GridOk.l0 k i w h c) (cellsOk c d i) := by
  induction d with
  | zero => intro i h0 h1; exact Ev.step (f := fun _ => some true) (fun k => by rw [spec_GridOk.l0, if_neg (by omega)]) (Ev.now _)
  | succ d ih =>
    intro i h0 h1
    rw [cellsOk]
    cases hk : cellOk (bt c i) with
    | true => exact Ev.step (fun k => by rw [spec_GridOk.l0, if_pos (by omega), if_pos h0, l02Kind_eq, hk, Option.bind_some, if_pos rfl, w64 (by omega) (by omega)]) (ih (i + 1) (by omega) (by omega))
    | false => exact Ev.step (f := fun _ => some false) (fun k => by rw [spec_GridOk.l0, if_pos (by omega), if_pos h0, l02Kind_eq, hk, Option.bind_some, if_neg (by simp)]) (Ev.now _)

theorem sGridOk (w h : Int) (c : ByteArray) : Ev (fun k => spec_GridOk.f k w h c) (gridOk w h c) := by
  have bad : ∀ hn : ¬ sideOk w h c, Ev (fun k => spec_GridOk.j0 k true w h c) (gridOk w h c) := fun hn => by
    have : gridOk w h c = false := by unfold gridOk; rw [decide_eq_false hn]; rfl
    rw [this]
    exact Ev.step (fun k => by rw [spec_GridOk.j0, if_pos rfl]) (Ev.now _)
  by_cases h1' : ¬ w ≥ 1
  · have h1 := h1'
    exact Ev.congr (fun k => by unfold spec_GridOk.f spec_l01In.f; rw [if_neg h1, Option.bind_some, if_neg (by simp)]) (bad (fun hs => h1 hs.1))
  have h1 := Decidable.not_not.mp h1'
  by_cases h2' : ¬ w ≤ 8
  · have h2 := h2'
    exact Ev.congr (fun k => by unfold spec_GridOk.f spec_l01In.f; rw [if_pos h1, Option.bind_some, if_neg (by simpa using h2)]) (bad (fun hs => h2 hs.2.1))
  have h2 := Decidable.not_not.mp h2'
  by_cases h3' : ¬ h ≥ 1
  · have h3 := h3'
    exact Ev.congr (fun k => by unfold spec_GridOk.f spec_l01In.f; rw [if_pos h1, Option.bind_some, if_pos (by simpa using h2), if_neg h3, Option.bind_some, if_neg (by simp)]) (bad (fun hs => h3 hs.2.2.1))
  have h3 := Decidable.not_not.mp h3'
  by_cases h4' : ¬ h ≤ 8
  · have h4 := h4'
    exact Ev.congr (fun k => by unfold spec_GridOk.f spec_l01In.f; rw [if_pos h1, Option.bind_some, if_pos (by simpa using h2), if_pos h3, Option.bind_some, if_neg (by simpa using h4)]) (bad (fun hs => h4 hs.2.2.2.1))
  have h4 := Decidable.not_not.mp h4'
  have hm := side_mul h1 h2 h3 h4
  have hw : wrap64 (w * h) = w * h := w64 (by omega) (by omega)
  refine Ev.congr (fun k => by unfold spec_GridOk.f spec_l01In.f; rw [if_pos h1, Option.bind_some, if_pos (by simpa using h2), if_pos h3, Option.bind_some, if_pos (by simpa using h4), hw]) ?_
  by_cases h5 : (c.size : Int) = w * h
  · have : gridOk w h c = cellsOk c c.size 0 := by unfold gridOk; rw [decide_eq_true (show sideOk w h c from ⟨h1, h2, h3, h4, h5⟩)]; rfl
    rw [this]
    exact Ev.step (fun k => by rw [spec_GridOk.j0, if_neg (by simpa using h5)]) (spec_cells w h c (by omega) c.size 0 (by omega) (by omega))
  · have : ((c.size : Int) != w * h) = true := by simpa using h5
    rw [this]
    exact bad (fun hs => h5 hs.2.2.2.2)

/-! spec.FreeAt -/
theorem sFreeAt (w h : Int) (c : ByteArray) (x : Int) : Ev (fun k => spec_FreeAt.f k w h c x) (freeAt w h c x) := by
  refine Ev.bind (sGridOk w h c) ?_
  unfold freeAt
  cases hg : gridOk w h c with
  | false => simp only [Bool.false_eq_true, if_false, Bool.false_and]; exact Ev.now _
  | true =>
    simp only [if_true, Bool.true_and]
    by_cases h0 : x ≥ 0
    · by_cases h1 : x < (c.size : Int)
      · refine Ev.of_eq fun k => ?_
        rw [if_pos h0, if_pos h1, if_pos (by omega), decide_eq_true (show 0 ≤ x ∧ x < (c.size : Int) from ⟨h0, h1⟩), Bool.true_and]
        congr 1
        rw [Bool.eq_iff_iff, bne_iff_ne, decide_eq_true_eq]
      · refine Ev.of_eq fun k => ?_
        rw [if_pos h0, if_neg h1, decide_eq_false (fun hh : 0 ≤ x ∧ x < (c.size : Int) => h1 hh.2)]
        rfl
    · refine Ev.of_eq fun k => ?_
      rw [if_neg h0, decide_eq_false (fun hh : 0 ≤ x ∧ x < (c.size : Int) => h0 hh.1)]
      rfl

/-! spec.FreeCells -/
theorem sFree_l0 {w h : Int} {c : ByteArray} (g : gridOk w h c = true) (d : Nat) : ∀ (i : Int) (acc : List Int), 0 ≤ i → i + d = c.size → acc.length + d ≤ 100 →
    Ev (fun k => spec_FreeCells.l0 k acc i w h c) (acc ++ freeList c d i) := by
  have hs := gridOk_size g
  induction d with
  | zero =>
    intro i acc h0 h1 h2
    rw [freeList, List.append_nil]
    exact Ev.step (fun k => by rw [spec_FreeCells.l0, if_neg (by omega)]) (Ev.step (f := fun _ => some acc) (fun k => by rw [spec_FreeCells.j1, if_neg (by simp)]) (Ev.now _))
  | succ d ih =>
    intro i acc h0 h1 h2
    have hw : wrap64 (i + 1) = i + 1 := w64 (by omega) (by omega)
    rw [freeList]
    refine Ev.step (fun k => by rw [spec_FreeCells.l0, if_pos (by omega), decide_eq_true (show i < 64 by omega)]) (Ev.step (fun k => by rw [spec_FreeCells.j1, if_pos rfl]) (Ev.bind (sFreeAt w h c i) ?_))
    rw [freeAt_in g h0 (by omega)]
    by_cases hb : bt c i ≠ 35
    · rw [if_pos hb, ← List.append_assoc, decide_eq_true hb]
      exact Ev.congr (fun k => by rw [if_pos rfl, if_pos (by omega), hw]) (ih (i + 1) (acc ++ [i]) (by omega) (by omega) (by simp; omega))
    · rw [if_neg hb, List.nil_append, decide_eq_false hb]
      exact Ev.congr (fun k => by rw [if_neg (by simp), hw]) (ih (i + 1) acc (by omega) (by omega) (by omega))

theorem sFree_bad {w h : Int} {c : ByteArray} (g : gridOk w h c = false) (d : Nat) : ∀ i : Int, 0 ≤ i → i + d = 64 → Ev (fun k => spec_FreeCells.l0 k [] i w h c) [] := by
  have stop : ∀ i : Int, Ev (fun k => spec_FreeCells.j1 k [] i false w h c) [] := fun i => Ev.step (f := fun _ => some []) (fun k => by rw [spec_FreeCells.j1, if_neg (by simp)]) (Ev.now _)
  have hf : ∀ i, freeAt w h c i = false := fun i => by unfold freeAt; rw [g]; rfl
  induction d with
  | zero =>
    intro i h0 h1
    by_cases hc : i < (c.size : Int)
    · exact Ev.step (fun k => by rw [spec_FreeCells.l0, if_pos hc, decide_eq_false (by omega)]) (stop i)
    · exact Ev.step (fun k => by rw [spec_FreeCells.l0, if_neg hc]) (stop i)
  | succ d ih =>
    intro i h0 h1
    by_cases hc : i < (c.size : Int)
    · refine Ev.step (fun k => by rw [spec_FreeCells.l0, if_pos hc, decide_eq_true (show i < 64 by omega)]) (Ev.step (fun k => by rw [spec_FreeCells.j1, if_pos rfl]) (Ev.bind (sFreeAt w h c i) ?_))
      rw [hf]
      exact Ev.congr (fun k => by rw [if_neg (by simp), w64 (x := i + 1) (by omega) (by omega)]) (ih (i + 1) (by omega) (by omega))
    · exact Ev.step (fun k => by rw [spec_FreeCells.l0, if_neg hc]) (stop i)

theorem sFreeCells (w h : Int) (c : ByteArray) : Ev (fun k => spec_FreeCells.f k w h c) (freeCells w h c) := by
  unfold freeCells
  cases g : gridOk w h c with
  | false => rw [if_neg (by simp)]; exact sFree_bad g 64 0 (by omega) (by omega)
  | true =>
    rw [if_pos rfl]
    have hs := gridOk_size g
    have h0 := sFree_l0 g c.size 0 [] (by omega) (by omega) (by simp; omega)
    rw [List.nil_append] at h0
    exact h0

/-! spec.l03Has -/
theorem has_l0 (xs : List Int) (v : Int) (hx : xs.length ≤ 1048576) (d : Nat) : ∀ i : Nat, i + d = xs.length → Ev (fun k => spec_l03Has.l0 k xs v i) ((xs.drop i).contains v) := by
  induction d with
  | zero =>
    intro i h
    have : xs.drop i = [] := List.drop_eq_nil_of_le (by omega)
    rw [this]
    exact Ev.step (f := fun _ => some false) (fun k => by rw [spec_l03Has.l0, if_neg (by omega)]) (Ev.now _)
  | succ d ih =>
    intro i h
    have e : rd xs (i : Int) = xs.getD i 0 := by unfold rd; rw [Int.toNat_natCast]
    have hw : wrap64 ((i : Int) + 1) = ((i + 1 : Nat) : Int) := by rw [w64 (by omega) (by omega)]; omega
    rw [drop_cons xs i 0 (by omega), List.contains_cons]
    by_cases hv : xs.getD i 0 = v
    · rw [beq_iff_eq.mpr hv.symm, Bool.true_or]
      exact Ev.step (f := fun _ => some true) (fun k => by rw [spec_l03Has.l0, if_pos (by omega), if_pos (by omega), e, if_pos hv]) (Ev.now _)
    · rw [beq_eq_false_iff_ne.mpr (fun hh => hv hh.symm), Bool.false_or]
      exact Ev.step (fun k => by rw [spec_l03Has.l0, if_pos (by omega), if_pos (by omega), e, if_neg hv, hw]) (ih (i + 1) (by omega))

theorem has_ev (xs : List Int) (v : Int) (hx : xs.length ≤ 1048576) : Ev (fun k => spec_l03Has.f k xs v) (xs.contains v) := by
  have h0 := has_l0 xs v hx xs.length 0 (Nat.zero_add _)
  rw [List.drop_zero, show ((0 : Nat) : Int) = 0 from rfl] at h0
  exact h0

/-! spec.l04Some and spec.DrawSome: a right map and some of its free cells, ascending -/
theorem mem_freeList (c : ByteArray) (d : Nat) : ∀ (i z : Int), z ∈ freeList c d i ↔ i ≤ z ∧ z < i + d ∧ bt c z ≠ 35 := by
  induction d with
  | zero => intro i z; simp only [freeList, List.not_mem_nil, false_iff]; omega
  | succ d ih =>
    intro i z
    rw [freeList, List.mem_append, ih]
    constructor
    · rintro (h | h)
      · split at h
        · rename_i hb
          rw [List.mem_singleton] at h
          subst h
          exact ⟨by omega, by omega, hb⟩
        · cases h
      · exact ⟨by omega, by omega, h.2.2⟩
    · rintro ⟨h1, h2, h3⟩
      by_cases e : z = i
      · subst e
        exact .inl (by rw [if_pos h3]; exact List.mem_singleton.2 rfl)
      · exact .inr ⟨by omega, by omega, h3⟩

theorem freeList_up (c : ByteArray) (d : Nat) : ∀ i : Int, (freeList c d i).Pairwise (· < ·) := by
  induction d with
  | zero => intro i; exact List.Pairwise.nil
  | succ d ih =>
    intro i
    rw [freeList, List.pairwise_append]
    refine ⟨by split <;> simp, ih _, fun x hx y hy => ?_⟩
    have := ((mem_freeList c d _ _).1 hy).1
    split at hx
    · rw [List.mem_singleton.1 hx]; omega
    · cases hx

theorem mem_freeCells {w h : Int} {c : ByteArray} {z : Int} : z ∈ freeCells w h c ↔ freeAt w h c z = true := by
  unfold freeCells
  rw [freeAt_iff]
  by_cases g : gridOk w h c = true
  · rw [if_pos g, mem_freeList]
    constructor
    · rintro ⟨a, b, d⟩; exact ⟨g, a, by omega, d⟩
    · rintro ⟨_, a, b, d⟩; exact ⟨a, by omega, d⟩
  · rw [if_neg g]
    constructor
    · intro hz; cases hz
    · rintro ⟨a, _⟩; exact absurd a g

theorem freeCells_up (w h : Int) (c : ByteArray) : (freeCells w h c).Pairwise (· < ·) := by
  unfold freeCells
  split
  · exact freeList_up _ _ _
  · exact List.Pairwise.nil

theorem some_l1 (F pick : List Int) (hF : F.length ≤ 64) (hp : pick.length ≤ 100) (b : List Int) (i h : Int) (m : Nat) : ∀ (j : Nat) (acc : List Int), j + m = F.length → acc.length ≤ j → Ev (fun k => spec_l04Some.l1 k F pick acc j b i h) (acc ++ (F.drop j).filter (fun z => pick.contains z), i, h) := by
  induction m with
  | zero =>
    intro j acc hj ha
    rw [List.drop_eq_nil_of_le (by omega), List.filter_nil, List.append_nil]
    exact Ev.step (f := fun _ => some (acc, i, h)) (fun k => by rw [spec_l04Some.l1, if_neg (by omega)]) (Ev.now _)
  | succ m ih =>
    intro j acc hj ha
    have hw3 : wrap64 ((j : Int) + 1) = ((j + 1 : Nat) : Int) := by rw [w64 (by omega) (by omega)]; omega
    have hh := has_ev pick (F.getD j 0) (by omega)
    have er : rd F (j : Int) = F.getD j 0 := by unfold rd; rw [Int.toNat_natCast]
    rw [drop_cons F j 0 (by omega), List.filter_cons]
    cases hq : pick.contains (F.getD j 0) with
    | true =>
      rw [hq] at hh
      rw [if_pos rfl]
      have := ih (j + 1) (acc ++ [F.getD j 0]) (by omega) (by simp; omega)
      rw [List.append_assoc] at this
      exact Ev.step (fun k => by rw [spec_l04Some.l1, if_pos (by omega), if_pos (by omega), er]) (Ev.bind hh (Ev.congr (fun k => by rw [if_pos rfl, if_pos (by omega), hw3]) this))
    | false =>
      rw [hq] at hh
      rw [if_neg (by simp)]
      exact Ev.step (fun k => by rw [spec_l04Some.l1, if_pos (by omega), if_pos (by omega), er]) (Ev.bind hh (Ev.congr (fun k => by rw [if_neg (by simp), hw3]) (ih (j + 1) acc (by omega) (by omega))))

theorem some_l0 (F : List Int) (hF : F.length ≤ 64) (n : Int) (hn : n ≤ 50) (b : List Int) (hb : b.length ≤ maxLen) (m : Nat) : ∀ (j : Nat) (pick : List Int) (i h : Int), (j : Int) + m = 50 → pick.length ≤ j → 0 ≤ i → ∃ (pick' : List Int) (i' h' : Int), 0 ≤ i' ∧ Ev (fun k => spec_l04Some.l0 k n F pick j b i h) (F.filter (fun z => pick'.contains z), i', h') := by
  have stop : ∀ (pick : List Int) (i h : Int), pick.length ≤ 50 → Ev (fun k => spec_l04Some.j1 k F pick b i h) (F.filter (fun z => pick.contains z), i, h) := fun pick i h hp => by
    have := some_l1 F pick hF (by omega) b i h F.length 0 [] (Nat.zero_add _) (Nat.le_refl _)
    rw [List.drop_zero, List.nil_append, show ((0 : Nat) : Int) = 0 from rfl] at this
    exact Ev.step (fun k => by rw [spec_l04Some.j1]) this
  induction m with
  | zero =>
    intro j pick i h hj hp hi
    exact ⟨pick, i, h, hi, Ev.step (fun k => by rw [spec_l04Some.l0, if_neg (by omega)]) (stop pick i h (by omega))⟩
  | succ m ih =>
    intro j pick i h hj hp hi
    by_cases c1 : (j : Int) < n
    · by_cases c2 : (F.length : Int) > 0
      · have hw3 : wrap64 ((j : Int) + 1) = ((j + 1 : Nat) : Int) := by rw [w64 (by omega) (by omega)]; omega
        obtain ⟨x, i1, h1, e, x0, x1, _, hi1⟩ := below_ok b hb i h hi F.length
        have hx := x1 (by omega)
        obtain ⟨p', i', h', r1, r2⟩ := ih (j + 1) (pick ++ [rd F x]) i1 h1 (by omega) (by simp; omega) hi1
        exact ⟨p', i', h', r1, Ev.step (fun k => by rw [spec_l04Some.l0, if_pos c1, if_pos c2, e, Option.bind_some, if_pos x0, if_pos hx, if_pos (by omega), hw3]) r2⟩
      · exact ⟨pick, i, h, hi, Ev.step (fun k => by rw [spec_l04Some.l0, if_pos c1, if_neg c2]) (stop pick i h (by omega))⟩
    · exact ⟨pick, i, h, hi, Ev.step (fun k => by rw [spec_l04Some.l0, if_neg c1]) (stop pick i h (by omega))⟩

theorem drawSome_ev (b : List Int) (hb : b.length ≤ maxLen) : ∃ (w h : Int) (c : ByteArray) (l : List Int), gridOk w h c = true ∧ l.length ≤ 64 ∧ (∀ z, z ∈ l → freeAt w h c z = true) ∧ l.Pairwise (· < ·) ∧ Ev (fun k => spec_DrawSome.f k b) (w, h, c, l) := by
  obtain ⟨h0, e0⟩ := new_ev b
  obtain ⟨w, h, c, i1, h1, g, hi1, e1⟩ := right_ev b hb 0 h0 (Int.le_refl _)
  obtain ⟨x, i2, h2, e2, x0, x1, _, hi2⟩ := below_ok b hb i1 h1 hi1 6
  have hx := x1 (by omega)
  have hF := freeCells_len w h c
  obtain ⟨p, i3, h3, hi3, e3⟩ := some_l0 (freeCells w h c) hF x (by omega) b hb 50 0 [] i2 h2 (by omega) (Nat.le_refl _) hi2
  have e4 : Ev (fun k => spec_l04Some.f k b i2 h2 w h c x) ((freeCells w h c).filter (fun z => p.contains z), i3, h3) := Ev.bind (sFreeCells w h c) e3
  refine ⟨w, h, c, (freeCells w h c).filter (fun z => p.contains z), g, ?_, fun z hz => mem_freeCells.1 (List.mem_filter.1 hz).1, (freeCells_up w h c).filter _, ?_⟩
  · have := List.length_filter_le (fun z => p.contains z) (freeCells w h c)
    omega
  · refine Ev.bind e0 (Ev.bind e1 (Ev.congr (fun k => by dsimp only; rw [e2, Option.bind_some]) (Ev.bind e4 (Ev.now _))))

/-! neighbours are cells; what the searches answer -/
theorem around_cell {w h : Int} {c : ByteArray} {x y : Int} (hy : y ∈ around w h c x) : Cell c.size y := by
  have one : ∀ {b : Bool} {v : Int}, y ∈ addIf b v → b = true ∧ y = v := by
    intro b v hv
    unfold addIf at hv
    split at hv
    · exact ⟨by assumption, by simpa using hv⟩
    · cases hv
  have fr : freeAt w h c y = true → Cell c.size y := fun hf => by
    have := freeAt_iff.mp hf
    exact ⟨this.2.1, this.2.2.1⟩
  unfold around at hy
  split at hy
  · simp only [List.mem_append] at hy
    rcases hy with h1 | h1 | h1 | h1
    · obtain ⟨a, rfl⟩ := one h1; exact fr a
    · obtain ⟨a, rfl⟩ := one h1; rw [Bool.and_eq_true] at a; exact fr a.2
    · obtain ⟨a, rfl⟩ := one h1; rw [Bool.and_eq_true] at a; exact fr a.2
    · obtain ⟨a, rfl⟩ := one h1; exact fr a
  · cases hy

theorem rdN (xs : List Int) (j : Nat) : rd xs (j : Int) = xs.getD j 0 := by unfold rd; rw [Int.toNat_natCast]


/-- what both searches answer -/
def Answer (w h : Int) (c : ByteArray) (l r : List Int) : Prop :=
  (gridOk w h c = true ∧ (∀ z, z ∈ l → freeAt w h c z = true) ∧ Lab c.size (around w h c) (fun z => z ∈ l) r) ∨ (¬ (gridOk w h c = true ∧ ∀ z, z ∈ l → freeAt w h c z = true) ∧ r = [])

theorem Answer.unique {w h : Int} {c : ByteArray} {l r s : List Int} (a : Answer w h c l r) (b : Answer w h c l s) : r = s := by
  rcases a with ⟨a1, a2, a3⟩ | ⟨a1, a2⟩
  · rcases b with ⟨b1, b2, b3⟩ | ⟨b1, b2⟩
    · exact a3.unique b3
    · exact absurd ⟨a1, a2⟩ b1
  · rcases b with ⟨b1, b2, b3⟩ | ⟨b1, b2⟩
    · exact absurd ⟨b1, b2⟩ a1
    · rw [a2, b2]

/-! impl.GridOk -/
theorem impl_cells (w h : Int) (c : ByteArray) (hc : c.size ≤ 64) (d : Nat) : ∀ i : Int, 0 ≤ i → i + d = c.size → Ev (fun k => impl_GridOk.l0 k i w h c) (cellsOk c d i) := by
  induction d with
  | zero => intro i h0 h1; exact Ev.step (f := fun _ => some true) (fun k => by rw [impl_GridOk.l0, if_neg (by omega)]) (Ev.now _)
  | succ d ih =>
    intro i h0 h1
    rw [cellsOk]
    have hnext := ih (i + 1) (by omega) (by omega)
    have hw : wrap64 (i + 1) = i + 1 := w64 (by omega) (by omega)
    cases hk : cellOk (bt c i) with
    | true =>
      have hk2 := of_decide_eq_true hk
      refine Ev.step (f := fun k => impl_GridOk.l0 k (i + 1) w h c) (fun k => ?_) hnext
      rw [impl_GridOk.l0, if_pos (by omega), if_pos h0, hw]
      repeat' split
      all_goals first | rfl | omega
    | false =>
      have hk2 := of_decide_eq_false hk
      refine Ev.step (f := fun k => some false) (fun k => ?_) (Ev.now _)
      rw [impl_GridOk.l0, if_pos (by omega), if_pos h0, hw]
      repeat' split
      all_goals first | rfl | omega

theorem iGridOk (w h : Int) (c : ByteArray) : Ev (fun k => impl_GridOk.f k w h c) (gridOk w h c) := by
  have bad : ∀ hn : ¬ sideOk w h c, Ev (fun k => impl_GridOk.j0 k true w h c) (gridOk w h c) := fun hn => by
    have : gridOk w h c = false := by unfold gridOk; rw [decide_eq_false hn]; rfl
    rw [this]
    exact Ev.step (fun k => by rw [impl_GridOk.j0, if_pos rfl]) (Ev.now _)
  by_cases h1 : w < 1
  · exact Ev.congr (fun k => by unfold impl_GridOk.f; rw [if_pos h1]) (bad (fun hs => by have := hs.1; omega))
  by_cases h2 : w > 8
  · exact Ev.congr (fun k => by unfold impl_GridOk.f; rw [if_neg h1, if_pos h2]) (bad (fun hs => by have := hs.2.1; omega))
  by_cases h3 : h < 1
  · exact Ev.congr (fun k => by unfold impl_GridOk.f; rw [if_neg h1, if_neg h2, if_pos h3]) (bad (fun hs => by have := hs.2.2.1; omega))
  by_cases h4 : h > 8
  · exact Ev.congr (fun k => by unfold impl_GridOk.f; rw [if_neg h1, if_neg h2, if_neg h3, if_pos h4]) (bad (fun hs => by have := hs.2.2.2.1; omega))
  have hm := side_mul (w := w) (h := h) (by omega) (by omega) (by omega) (by omega)
  have hw : wrap64 (w * h) = w * h := w64 (by omega) (by omega)
  refine Ev.congr (fun k => by unfold impl_GridOk.f; rw [if_neg h1, if_neg h2, if_neg h3, if_neg h4, hw]) ?_
  by_cases h5 : (c.size : Int) = w * h
  · have : gridOk w h c = cellsOk c c.size 0 := by unfold gridOk; rw [decide_eq_true (show sideOk w h c from ⟨by omega, by omega, by omega, by omega, h5⟩)]; rfl
    rw [this]
    exact Ev.step (fun k => by rw [impl_GridOk.j0, if_neg (by simpa using h5)]) (impl_cells w h c (by omega) c.size 0 (by omega) (by omega))
  · have : ((c.size : Int) != w * h) = true := by simpa using h5
    rw [this]
    exact bad (fun hs => h5 hs.2.2.2.2)

/-! impl.isFree -/
theorem isFree_eq {w h : Int} {c : ByteArray} (g : gridOk w h c = true) (x : Int) : impl_isFree.f w h c x = some (freeAt w h c x) := by
  unfold freeAt impl_isFree.f
  rw [g]
  simp only [Bool.true_and]
  by_cases h0 : x ≥ 0
  · by_cases h1 : x < (c.size : Int)
    · rw [if_pos h0, if_pos h1, if_pos (by omega), decide_eq_true (show 0 ≤ x ∧ x < (c.size : Int) from ⟨h0, h1⟩), Bool.true_and]
      congr 1
      rw [Bool.eq_iff_iff, bne_iff_ne, decide_eq_true_eq]
    · rw [if_pos h0, if_neg h1, decide_eq_false (fun hh : 0 ≤ x ∧ x < (c.size : Int) => h1 hh.2)]
      rfl
  · rw [if_neg h0, decide_eq_false (fun hh : 0 ≤ x ∧ x < (c.size : Int) => h0 hh.1)]
    rfl

/-! impl.around, impl.Around -/
theorem iaround_ev {w h : Int} {c : ByteArray} (g : gridOk w h c = true) {x : Int} (hx0 : -9000000000000000000 ≤ x) (hx1 : x ≤ 9000000000000000000) : Ev (fun k => impl_around.f k w h c x) (around w h c x) := by
  obtain ⟨h1, h2, h3, h4, h5⟩ := gridOk_side g
  have hs := gridOk_size g
  have w1 : wrap64 (x - w) = x - w := w64 (by omega) (by omega)
  have w2 : wrap64 (x - 1) = x - 1 := w64 (by omega) (by omega)
  have w3 : wrap64 (x + 1) = x + 1 := w64 (by omega) (by omega)
  have w4 : wrap64 (x + w) = x + w := w64 (by omega) (by omega)
  have w5 : wrap64 (w - 1) = w - 1 := w64 (by omega) (by omega)
  have hw : ¬ w = 0 := by omega
  unfold around
  cases hf : freeAt w h c x with
  | false => exact Ev.of_eq fun k => by unfold impl_around.f; rw [isFree_eq g, hf, Option.bind_some, if_neg (by simp), if_neg (by simp)]
  | true =>
    rw [if_pos rfl]
    have hx := freeAt_iff.mp hf
    have tm : Int.tmod x w = x % w := Int.tmod_eq_emod_of_nonneg hx.2.1
    have last : ∀ acc : List Int, acc.length ≤ 10 → ∀ b : Bool, Ev (fun k => impl_around.j3 k x acc b w h c) (acc ++ (addIf b (x + 1) ++ addIf (freeAt w h c (x + w)) (x + w))) := fun acc ha b => by
      refine Ev.step (fun k => by rw [impl_around.j3, isFree_eq g, w4, w3]) ?_
      cases b with
      | true =>
        cases hq : freeAt w h c (x + w) with
        | true => exact Ev.of_eq fun k => by rw [if_pos rfl, if_pos (by omega), Option.bind_some, Option.bind_some, if_pos rfl, if_pos (by simp; omega)]; simp [addIf]
        | false => exact Ev.of_eq fun k => by rw [if_pos rfl, if_pos (by omega), Option.bind_some, Option.bind_some, if_neg (by simp)]; simp [addIf]
      | false =>
        cases hq : freeAt w h c (x + w) with
        | true => exact Ev.of_eq fun k => by rw [if_neg (by simp), Option.bind_some, if_pos rfl, if_pos (by omega)]; simp [addIf]
        | false => exact Ev.of_eq fun k => by rw [if_neg (by simp), Option.bind_some, if_neg (by simp)]; simp [addIf]
    have right : ∀ acc : List Int, acc.length ≤ 9 → Ev (fun k => impl_around.j2 k x acc w h c) (acc ++ (addIf (decide (x % w < w - 1) && freeAt w h c (x + 1)) (x + 1) ++ addIf (freeAt w h c (x + w)) (x + w))) := fun acc ha => by
      by_cases hc : x % w < w - 1
      · exact Ev.step (fun k => by rw [impl_around.j2, if_neg hw, tm, w5, if_pos hc, w3, isFree_eq g, Option.bind_some, decide_eq_true hc, Bool.true_and]) (last acc (by omega) _)
      · exact Ev.step (fun k => by rw [impl_around.j2, if_neg hw, tm, w5, if_neg hc, decide_eq_false hc, Bool.false_and]) (last acc (by omega) _)
    have left1 : ∀ acc : List Int, acc.length ≤ 8 → ∀ b : Bool, Ev (fun k => impl_around.j1 k x acc b w h c) (acc ++ (addIf b (x - 1) ++ (addIf (decide (x % w < w - 1) && freeAt w h c (x + 1)) (x + 1) ++ addIf (freeAt w h c (x + w)) (x + w)))) := fun acc ha b => by
      cases b with
      | true =>
        have := right (acc ++ [x - 1]) (by simp; omega)
        rw [List.append_assoc] at this
        exact Ev.step (fun k => by rw [impl_around.j1, if_pos rfl, if_pos (by omega), w2]) this
      | false => exact Ev.step (fun k => by rw [impl_around.j1, if_neg (by simp)]) (right acc (by omega))
    have left : ∀ acc : List Int, acc.length ≤ 8 → Ev (fun k => impl_around.j0 k x acc w h c) (acc ++ (addIf (decide (0 < x % w) && freeAt w h c (x - 1)) (x - 1) ++ (addIf (decide (x % w < w - 1) && freeAt w h c (x + 1)) (x + 1) ++ addIf (freeAt w h c (x + w)) (x + w)))) := fun acc ha => by
      by_cases hc : 0 < x % w
      · exact Ev.step (fun k => by rw [impl_around.j0, if_neg hw, tm, if_pos hc, w2, isFree_eq g, Option.bind_some, decide_eq_true hc, Bool.true_and]) (left1 acc ha _)
      · exact Ev.step (fun k => by rw [impl_around.j0, if_neg hw, tm, if_neg hc, decide_eq_false hc, Bool.false_and]) (left1 acc ha _)
    cases hq : freeAt w h c (x - w) with
    | true =>
      have := left ([] ++ [x - w]) (by simp)
      exact Ev.congr (fun k => by unfold impl_around.f; rw [isFree_eq g, hf, Option.bind_some, if_pos rfl, w1, isFree_eq g, hq, Option.bind_some, if_pos rfl, if_pos (by simp)]) this
    | false =>
      have := left [] (by simp)
      exact Ev.congr (fun k => by unfold impl_around.f; rw [isFree_eq g, hf, Option.bind_some, if_pos rfl, w1, isFree_eq g, hq, Option.bind_some, if_neg (by simp)]) this

/-! impl.Around -/
theorem iaround_any {w h : Int} {c : ByteArray} (g : gridOk w h c = true) (x : Int) (hx0 : -9223372036854775808 ≤ x) (hx1 : x ≤ 9223372036854775807) : Ev (fun k => impl_around.f k w h c x) (around w h c x) := by
  by_cases hb : -9000000000000000000 ≤ x ∧ x ≤ 9000000000000000000
  · exact iaround_ev g hb.1 hb.2
  · have hs := gridOk_size g
    have hf : freeAt w h c x = false := by
      by_cases hn : x < 0
      · exact freeAt_low hn
      · exact freeAt_high (by omega)
    unfold around
    rw [hf, if_neg (by simp)]
    exact Ev.of_eq fun k => by unfold impl_around.f; rw [isFree_eq g, hf, Option.bind_some, if_neg (by simp)]

theorem around_bad {w h : Int} {c : ByteArray} (g : gridOk w h c = false) (x : Int) : around w h c x = [] := by
  unfold around freeAt
  rw [g, Bool.false_and, if_neg (by simp)]

end Go.Proofs.Ytabepbkolmimlaa.QFnHomes

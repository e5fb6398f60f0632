/- What the functions that the law FnBeside reaches compute: DrawCur, DrawRight, DrawMap, DrawPlaces, AnswerA, Sym, PairsL, GridOkI, isFree, AroundI, FreeCellsI, PairsOfI, AroundIA, AroundIF, Contains, BesideI, SpotOfI, CellAtI, FreeAtI. -/
import Derived.Test.YtpmieegflolflaaPFnBesidex
import Derived.Test.YtpmieegflolflaaMBase
import Derived.Test.YtpmieegflolflaaMDraw
import Derived.Test.YtpmieegflolflaaMGrid
import Derived.Test.YtpmieegflolflaaMLists
import Derived.Test.YtpmieegflolflaaMSteps
import Derived.Test.YtpmieegflolflaaMScan
namespace Go.Proofs.Ytpmieegflolflaa.QFnBeside
open Go.RowKit Go.Proofs.Ytpmieegflolflaa.PFnBeside Go.Proofs.YtpmieegflolflaaW.PrintWords Go.Proofs.YtpmieegflolflaaW.PrintLast Go.Proofs.YtpmieegflolflaaW.PrintMore Go.Proofs.Ytpmieegflolflaa.MBase Go.Proofs.Ytpmieegflolflaa.MDraw Go.Proofs.Ytpmieegflolflaa.MGrid Go.Proofs.Ytpmieegflolflaa.MLists Go.Proofs.Ytpmieegflolflaa.MSteps Go.Proofs.Ytpmieegflolflaa.MScan
set_option linter.unusedVariables false
set_option linter.unusedSimpArgs false

/-! the cursor of a draw: each number that it gives lies below what was asked -/
theorem new_l0 (b : List Int) (m : Nat) : ∀ (j : Nat) (h : Int), j + m = 4000 → ∃ h', Ev (fun k => spec_l01New.l0 k b h j) (b, 0, h') := by
  induction m with
  | zero =>
    intro j h hj
    refine ⟨h, Ev.step (f := fun _ => some (b, 0, h)) (fun k => ?_) (Ev.now _)⟩
    by_cases hl : (j : Int) < b.length
    · rw [spec_l01New.l0, if_pos hl, if_neg (by omega)]
    · rw [spec_l01New.l0, if_neg hl]
  | succ m ih =>
    intro j h hj
    by_cases hl : (j : Int) < b.length
    · obtain ⟨h', e⟩ := ih (j + 1) (bits .and .i64 (wrap64 ((wrap64 ((wrap64 (h * 131)) + (wrap64 (rd b (j : Int))))) + 7)) 1073741823) (by omega)
      have hw3 : wrap64 ((j : Int) + 1) = ((j + 1 : Nat) : Int) := by rw [w64 (by omega) (by omega)]; omega
      exact ⟨h', Ev.step (fun k => by rw [spec_l01New.l0, if_pos hl, if_pos (by omega), if_pos (by omega), hw3]) e⟩
    · exact ⟨h, Ev.step (f := fun _ => some (b, 0, h)) (fun k => by rw [spec_l01New.l0, if_neg hl]) (Ev.now _)⟩

theorem new_ev (b : List Int) : ∃ h, Ev (fun k => spec_l01New.f k b) (b, 0, h) := new_l0 b 4000 0 _ (by omega)

theorem byte_ok (b : List Int) (hb : b.length ≤ maxLen) (i h : Int) (hi : 0 ≤ i) : ∃ x i' h', spec_l01Byte.f b i h = some (x, i', h') ∧ 0 ≤ x ∧ x ≤ 255 ∧ 0 ≤ i' := by
  unfold spec_l01Byte.f
  unfold maxLen at hb
  by_cases hl : i < b.length
  · rw [if_pos hl, if_pos hi]
    exact ⟨_, _, _, rfl, (and255 _).1, (and255 _).2, by rw [w64 (by omega) (by omega)]; omega⟩
  · rw [if_neg hl]
    exact ⟨_, _, _, rfl, (and255 _).1, (and255 _).2, hi⟩

theorem below_ok (b : List Int) (hb : b.length ≤ maxLen) (i h : Int) (hi : 0 ≤ i) (n : Int) : ∃ x i' h', spec_l01Below.f b i h n = some (x, i', h') ∧ 0 ≤ x ∧ (0 < n → x < n) ∧ (n ≤ 0 → x = 0) ∧ 0 ≤ i' := by
  unfold spec_l01Below.f
  by_cases h0 : n ≤ 0
  · rw [if_pos h0]
    exact ⟨0, i, h, rfl, Int.le_refl _, fun hh => by omega, fun _ => rfl, hi⟩
  have hn : ¬ n = 0 := by omega
  by_cases h1 : n ≤ 256
  · obtain ⟨x, i', h', e, x0, x1, hi'⟩ := byte_ok b hb i h hi
    have t := tmod_lt x0 (show 0 < n by omega)
    exact ⟨Int.tmod x n, i', h', by rw [if_neg h0, if_pos h1, e, Option.bind_some, if_neg hn], t.1, fun _ => t.2, fun hh => by omega, hi'⟩
  · obtain ⟨x, i1, h1', e1, x0, x1, hi1⟩ := byte_ok b hb i h hi
    obtain ⟨y, i2, h2', e2, y0, y1, hi2⟩ := byte_ok b hb i1 h1' hi1
    obtain ⟨z, i3, h3', e3, z0, z1, hi3⟩ := byte_ok b hb i2 h2' hi2
    obtain ⟨u, i4, h4', e4, u0, u1, hi4⟩ := byte_ok b hb i3 h3' hi3
    have hv : 0 ≤ wrap64 ((wrap64 ((wrap64 ((wrap64 (x * 16777216)) + (wrap64 (y * 65536)))) + (wrap64 (z * 256)))) + u) := by
      rw [w64 (x := x * 16777216) (by omega) (by omega), w64 (x := y * 65536) (by omega) (by omega), w64 (x := z * 256) (by omega) (by omega), w64 (x := x * 16777216 + y * 65536) (by omega) (by omega), w64 (x := x * 16777216 + y * 65536 + z * 256) (by omega) (by omega), w64 (by omega) (by omega)]
      omega
    have t := tmod_lt hv (show 0 < n by omega)
    exact ⟨_, i4, h4', by rw [if_neg h0, if_neg h1, e1, Option.bind_some, e2, Option.bind_some, e3, Option.bind_some, e4, Option.bind_some, if_neg hn], t.1, fun _ => t.2, fun hh => by omega, hi4⟩

/-! spec.l02Sized and spec.l02Right: a right map -/
theorem sized_l0 (b : List Int) (hb : b.length ≤ maxLen) (w h : Int) (N : Nat) (hN : N ≤ 64) (hwh : wrap64 (w * h) = N) (m : Nat) : ∀ (j : Nat) (acc : List Int) (i hh : Int), j + m = N → acc.length = j → (∀ z, z ∈ acc → 0 ≤ z ∧ z < 256 ∧ cellOk z = true) → 0 ≤ i →
    ∃ (xs : List Int) (i' h' : Int), xs.length = N ∧ (∀ z, z ∈ xs → 0 ≤ z ∧ z < 256 ∧ cellOk z = true) ∧ 0 ≤ i' ∧ Ev (fun k => spec_l02Sized.l0 k w h acc j b i hh) (w, h, strOfNums xs, i', h') := by
  induction m with
  | zero =>
    intro j acc i hh hj ha hz hi
    exact ⟨acc, i, hh, by omega, hz, hi, Ev.step (f := fun _ => some (w, h, strOfNums acc, i, hh)) (fun k => by rw [spec_l02Sized.l0, hwh, if_neg (by omega)]) (Ev.now _)⟩
  | succ m ih =>
    intro j acc i hh hj ha hz hi
    have hw3 : wrap64 ((j : Int) + 1) = ((j + 1 : Nat) : Int) := by rw [w64 (by omega) (by omega)]; omega
    have put : ∀ (v i' h' : Int), 0 ≤ v → v < 256 → cellOk v = true → 0 ≤ i' → ∃ (xs : List Int) (i2 h2 : Int), xs.length = N ∧ (∀ z, z ∈ xs → 0 ≤ z ∧ z < 256 ∧ cellOk z = true) ∧ 0 ≤ i2 ∧ Ev (fun k => spec_l02Sized.l0 k w h (acc ++ [v]) ((j + 1 : Nat) : Int) b i' h') (w, h, strOfNums xs, i2, h2) := fun v i' h' v0 v1 vc hi' =>
      ih (j + 1) (acc ++ [v]) i' h' (by omega) (by simp; omega) (fun z hm => by
        rcases List.mem_append.1 hm with h1 | h1
        · exact hz z h1
        · rw [List.mem_singleton.1 h1]; exact ⟨v0, v1, vc⟩) hi'
    obtain ⟨x, i1, h1, e, x0, x1, _, hi1⟩ := below_ok b hb i hh hi 8
    have hx := x1 (by omega)
    by_cases c0 : x = 0
    · obtain ⟨xs, i2, h2, r1, r2, r3, r4⟩ := put 35 i1 h1 (by omega) (by omega) (by decide) hi1
      exact ⟨xs, i2, h2, r1, r2, r3, Ev.step (fun k => by rw [spec_l02Sized.l0, hwh, if_pos (by omega), e, Option.bind_some, if_pos c0, if_pos (by omega), hw3]) r4⟩
    · have go1 : ∀ t : Bool, ∃ (xs : List Int) (i2 h2 : Int), xs.length = N ∧ (∀ z, z ∈ xs → 0 ≤ z ∧ z < 256 ∧ cellOk z = true) ∧ 0 ≤ i2 ∧ Ev (fun k => spec_l02Sized.j1 k w h acc j x t b i1 h1) (w, h, strOfNums xs, i2, h2) := fun t => by
        cases t with
        | true =>
          obtain ⟨y, i3, h3, e3, y0, y1, _, hi3⟩ := below_ok b hb i1 h1 hi1 3
          have hy := y1 (by omega)
          have hv : (wrap64 (65 + y)) % 256 = 65 + y := by rw [w64 (by omega) (by omega)]; omega
          obtain ⟨xs, i2, h2, r1, r2, r3, r4⟩ := put (65 + y) i3 h3 (by omega) (by omega) (decide_eq_true (.inr (.inr (.inr ⟨by omega, by omega⟩)))) hi3
          exact ⟨xs, i2, h2, r1, r2, r3, Ev.step (fun k => by rw [spec_l02Sized.j1, if_pos rfl, e3, Option.bind_some, if_pos (by omega), hv, hw3]) r4⟩
        | false =>
          by_cases c3 : x = 3
          · obtain ⟨y, i3, h3, e3, y0, y1, _, hi3⟩ := below_ok b hb i1 h1 hi1 6
            have hy := y1 (by omega)
            have hv : (wrap64 (97 + y)) % 256 = 97 + y := by rw [w64 (by omega) (by omega)]; omega
            obtain ⟨xs, i2, h2, r1, r2, r3, r4⟩ := put (97 + y) i3 h3 (by omega) (by omega) (decide_eq_true (.inr (.inr (.inl ⟨by omega, by omega⟩)))) hi3
            exact ⟨xs, i2, h2, r1, r2, r3, Ev.step (fun k => by rw [spec_l02Sized.j1, if_neg (by simp), if_pos c3, e3, Option.bind_some, if_pos (by omega), hv, hw3]) r4⟩
          · obtain ⟨xs, i2, h2, r1, r2, r3, r4⟩ := put 46 i1 h1 (by omega) (by omega) (by decide) hi1
            exact ⟨xs, i2, h2, r1, r2, r3, Ev.step (fun k => by rw [spec_l02Sized.j1, if_neg (by simp), if_neg c3, if_pos (by omega), hw3]) r4⟩
      by_cases c1 : x = 1
      · obtain ⟨xs, i2, h2, r1, r2, r3, r4⟩ := go1 (x == 1)
        exact ⟨xs, i2, h2, r1, r2, r3, Ev.step (fun k => by rw [spec_l02Sized.l0, hwh, if_pos (by omega), e, Option.bind_some, if_neg c0, if_pos c1]) r4⟩
      · obtain ⟨xs, i2, h2, r1, r2, r3, r4⟩ := go1 (x == 2)
        exact ⟨xs, i2, h2, r1, r2, r3, Ev.step (fun k => by rw [spec_l02Sized.l0, hwh, if_pos (by omega), e, Option.bind_some, if_neg c0, if_neg c1]) r4⟩

theorem sized_grid {w h : Int} {xs : List Int} (hw : 1 ≤ w ∧ w ≤ 8) (hh : 1 ≤ h ∧ h ≤ 8) (hl : (xs.length : Int) = w * h) (hz : ∀ z, z ∈ xs → 0 ≤ z ∧ z < 256 ∧ cellOk z = true) : gridOk w h (strOfNums xs) = true := by
  have hs := strOfNums_size xs
  unfold gridOk
  rw [Bool.and_eq_true, cellsOk_iff]
  refine ⟨decide_eq_true ⟨hw.1, hw.2, hh.1, hh.2, by rw [hs]; exact hl⟩, fun j hj => ?_⟩
  rw [hs] at hj
  have hm := hz _ (getD_mem' hj)
  rw [Int.zero_add, strNums_bt xs j hj hm.1 hm.2.1]
  exact hm.2.2

theorem right_ev (b : List Int) (hb : b.length ≤ maxLen) (i hh : Int) (hi : 0 ≤ i) : ∃ (w h : Int) (c : ByteArray) (i' h' : Int), gridOk w h c = true ∧ 0 ≤ i' ∧ Ev (fun k => spec_l02Right.f k b i hh) (w, h, c, i', h') := by
  obtain ⟨x, i1, h1, e1, x0, x1, _, hi1⟩ := below_ok b hb i hh hi 3
  obtain ⟨y, i2, h2, e2, y0, y1, _, hi2⟩ := below_ok b hb i1 h1 hi1 3
  have hx := x1 (by omega)
  have hy := y1 (by omega)
  have wx : wrap64 (2 + x) = 2 + x := w64 (by omega) (by omega)
  have wy : wrap64 (2 + y) = 2 + y := w64 (by omega) (by omega)
  have hm := side_mul (w := 2 + x) (h := 2 + y) (by omega) (by omega) (by omega) (by omega)
  obtain ⟨xs, i3, h3, r1, r2, r3, r4⟩ := sized_l0 b hb (2 + x) (2 + y) ((2 + x) * (2 + y)).toNat (by omega) (by rw [w64 (by omega) (by omega)]; omega) ((2 + x) * (2 + y)).toNat 0 [] i2 h2 (by omega) rfl (fun z hz => by cases hz) hi2
  have r5 : Ev (fun k => spec_l02Sized.f k b i2 h2 (2 + x) (2 + y)) (2 + x, 2 + y, strOfNums xs, i3, h3) := r4
  refine ⟨2 + x, 2 + y, strOfNums xs, i3, h3, sized_grid ⟨by omega, by omega⟩ ⟨by omega, by omega⟩ (by omega) r2, r3, ?_⟩
  refine Ev.congr (fun k => by unfold spec_l02Right.f; rw [e1, Option.bind_some, e2, Option.bind_some, wx, wy]) (Ev.bind r5 (Ev.now _))

/-! spec.DrawMap: a right map -/
theorem drawMap_ev (b : List Int) (hb : b.length ≤ maxLen) : ∃ (w h : Int) (c : ByteArray), gridOk w h c = true ∧ Ev (fun k => spec_DrawMap.f k b) (w, h, c) := by
  obtain ⟨h0, e0⟩ := new_ev b
  obtain ⟨w, h, c, i1, h1, g, hi1, e1⟩ := right_ev b hb 0 h0 (Int.le_refl _)
  exact ⟨w, h, c, g, Ev.bind e0 (Ev.bind e1 (Ev.now _))⟩

/-! spec.DrawPlaces -/
theorem places_l0 (b : List Int) (hb : b.length ≤ maxLen) (m : Nat) : ∀ (j : Nat) (acc : List Int) (i h : Int), j + m = 12 → acc.length = j → (∀ z, z ∈ acc → 0 ≤ z ∧ z < 10000) → 0 ≤ i → ∃ p : List Int, p.length = 12 ∧ (∀ z, z ∈ p → 0 ≤ z ∧ z < 10000) ∧ Ev (fun k => spec_DrawPlaces.l0 k acc j b i h) p := by
  induction m with
  | zero =>
    intro j acc i h hj ha hz hi
    exact ⟨acc, by omega, hz, Ev.step (f := fun _ => some acc) (fun k => by rw [spec_DrawPlaces.l0, if_neg (by omega)]) (Ev.now _)⟩
  | succ m ih =>
    intro j acc i h hj ha hz hi
    have hw3 : wrap64 ((j : Int) + 1) = ((j + 1 : Nat) : Int) := by rw [w64 (by omega) (by omega)]; omega
    obtain ⟨x, i', h', e, x0, x1, _, hi'⟩ := below_ok b hb i h hi 10000
    obtain ⟨p, p1, p2, p3⟩ := ih (j + 1) (acc ++ [x]) i' h' (by omega) (by simp; omega) (fun z hm => by
      rcases List.mem_append.1 hm with h1 | h1
      · exact hz z h1
      · rw [List.mem_singleton.1 h1]; exact ⟨x0, x1 (by omega)⟩) hi'
    exact ⟨p, p1, p2, Ev.step (fun k => by rw [spec_DrawPlaces.l0, if_pos (by omega), e, Option.bind_some, if_pos (by omega), hw3]) p3⟩

theorem places_ev (b : List Int) (hb : b.length ≤ maxLen) : ∃ p : List Int, p.length = 12 ∧ (∀ j : Nat, j < 12 → 0 ≤ rd p j ∧ rd p j < 10000) ∧ Ev (fun k => spec_DrawPlaces.f k b) p := by
  obtain ⟨h, e0⟩ := new_ev b
  obtain ⟨x, i', h', e, x0, x1, hi'⟩ := byte_ok b hb 0 h (Int.le_refl _)
  obtain ⟨p, p1, p2, p3⟩ := places_l0 b hb 12 0 [] i' h' (by omega) rfl (fun z hz => by cases hz) hi'
  refine ⟨p, p1, fun j hj => ?_, Ev.bind e0 (Ev.congr (fun k => by dsimp only; rw [e, Option.bind_some]; rfl) p3)⟩
  have := p2 _ (getD_mem' (xs := p) (j := j) (by omega))
  unfold rd
  rw [Int.toNat_natCast]
  exact this

/-! neighbours are cells; what the searches answer -/
theorem around_cell {w h : Int} {c : ByteArray} {x y : Int} (hy : y ∈ around w h c x) : Cell c.size y := by
  have one : ∀ {b : Bool} {v : Int}, y ∈ addIf b v → b = true ∧ y = v := by
    intro b v hv
    unfold addIf at hv
    split at hv
    · exact ⟨by assumption, by simpa using hv⟩
    · cases hv
  have fr : freeAt w h c y = true → Cell c.size y := fun hf => by
    have := freeAt_iff.mp hf
    exact ⟨this.2.1, this.2.2.1⟩
  unfold around at hy
  split at hy
  · simp only [List.mem_append] at hy
    rcases hy with h1 | h1 | h1 | h1
    · obtain ⟨a, rfl⟩ := one h1; exact fr a
    · obtain ⟨a, rfl⟩ := one h1; rw [Bool.and_eq_true] at a; exact fr a.2
    · obtain ⟨a, rfl⟩ := one h1; rw [Bool.and_eq_true] at a; exact fr a.2
    · obtain ⟨a, rfl⟩ := one h1; exact fr a
  · cases hy

theorem rdN (xs : List Int) (j : Nat) : rd xs (j : Int) = xs.getD j 0 := by unfold rd; rw [Int.toNat_natCast]


/-- what both searches answer -/
def Answer (w h : Int) (c : ByteArray) (l r : List Int) : Prop :=
  (gridOk w h c = true ∧ (∀ z, z ∈ l → freeAt w h c z = true) ∧ Lab c.size (around w h c) (fun z => z ∈ l) r) ∨ (¬ (gridOk w h c = true ∧ ∀ z, z ∈ l → freeAt w h c z = true) ∧ r = [])

theorem Answer.unique {w h : Int} {c : ByteArray} {l r s : List Int} (a : Answer w h c l r) (b : Answer w h c l s) : r = s := by
  rcases a with ⟨a1, a2, a3⟩ | ⟨a1, a2⟩
  · rcases b with ⟨b1, b2, b3⟩ | ⟨b1, b2⟩
    · exact a3.unique b3
    · exact absurd ⟨a1, a2⟩ b1
  · rcases b with ⟨b1, b2, b3⟩ | ⟨b1, b2⟩
    · exact absurd ⟨b1, b2⟩ a1
    · rw [a2, b2]

/-! neighbours are neighbours both ways; distances are symmetric and obey the triangle inequality -/
theorem mem_addIf {b : Bool} {v u : Int} : v ∈ addIf b u ↔ b = true ∧ v = u := by
  unfold addIf
  cases b <;> simp

theorem mem_around {w h : Int} {c : ByteArray} {x y : Int} : y ∈ around w h c x ↔ freeAt w h c x = true ∧ freeAt w h c y = true ∧ (y = x - w ∨ (0 < x % w ∧ y = x - 1) ∨ (x % w < w - 1 ∧ y = x + 1) ∨ y = x + w) := by
  unfold around
  cases hx : freeAt w h c x with
  | false => simp
  | true =>
    rw [if_pos rfl]
    simp only [List.mem_append, mem_addIf, Bool.and_eq_true, decide_eq_true_eq]
    constructor
    · rintro (⟨a, rfl⟩ | ⟨⟨a, b⟩, rfl⟩ | ⟨⟨a, b⟩, rfl⟩ | ⟨a, rfl⟩)
      · exact ⟨trivial, a, .inl rfl⟩
      · exact ⟨trivial, b, .inr (.inl ⟨a, rfl⟩)⟩
      · exact ⟨trivial, b, .inr (.inr (.inl ⟨a, rfl⟩))⟩
      · exact ⟨trivial, a, .inr (.inr (.inr rfl))⟩
    · rintro ⟨_, a, rfl | ⟨b, rfl⟩ | ⟨b, rfl⟩ | rfl⟩
      · exact .inl ⟨a, rfl⟩
      · exact .inr (.inl ⟨⟨b, a⟩, rfl⟩)
      · exact .inr (.inr (.inl ⟨⟨b, a⟩, rfl⟩))
      · exact .inr (.inr (.inr ⟨a, rfl⟩))

theorem emod_of {w q r x : Int} (h0 : 0 ≤ r) (h1 : r < w) (e : x = q * w + r) : x % w = r := by
  rw [e, Int.add_comm, Int.add_mul_emod_self_right, Int.emod_eq_of_lt h0 h1]

theorem around_symm {w h : Int} {c : ByteArray} {x y : Int} (hy : y ∈ around w h c x) : x ∈ around w h c y := by
  obtain ⟨fx, fy, hh⟩ := mem_around.mp hy
  obtain ⟨s1, s2, s3, s4, s5⟩ := gridOk_side (freeAt_iff.mp fx).1
  have e := spot_eq (w := w) (x := x)
  have r1 := Int.emod_nonneg x (show w ≠ 0 by omega)
  have r2 := Int.emod_lt_of_pos x (show 0 < w by omega)
  refine mem_around.mpr ⟨fy, fx, ?_⟩
  rcases hh with rfl | ⟨b, rfl⟩ | ⟨b, rfl⟩ | rfl
  · exact .inr (.inr (.inr (by omega)))
  · refine .inr (.inr (.inl ⟨?_, by omega⟩))
    rw [emod_of (q := x / w) (r := x % w - 1) (by omega) (by omega) (by omega)]
    omega
  · refine .inr (.inl ⟨?_, by omega⟩)
    rw [emod_of (q := x / w) (r := x % w + 1) (by omega) (by omega) (by omega)]
    omega
  · exact .inl (by omega)

/-- by way of x: e's label of a is at most e's label of x and x's distance from a -/
theorem lab_tri {n : Nat} {A : Int → List Int} {S : Int → Prop} {d e : List Int} {a : Int} (sym : ∀ x y, y ∈ A x → x ∈ A y) (p : Lab n A (fun z => z ∈ [a]) d) (q : Lab n A S e) (m : Nat) :
    ∀ x, Cell n x → rd d x = m → 0 ≤ rd e x → 0 ≤ rd e a ∧ rd e a ≤ rd e x + m := by
  induction m with
  | zero =>
    intro x hx hm h0
    have := (p.src x hx).1 (by rw [hm]; rfl)
    rw [List.mem_singleton] at this
    subst this
    omega
  | succ m ih =>
    intro x hx hm h0
    obtain ⟨u, hu, hxu, e1⟩ := p.pred x hx (by omega)
    have h1 := q.edge x hx h0 u (sym u x hxu)
    have h2 := ih u hu (by omega) h1.1
    omega

theorem lab_sym {n : Nat} {A : Int → List Int} {d e : List Int} {a b : Int} (sym : ∀ x y, y ∈ A x → x ∈ A y) (ha : Cell n a) (hb : Cell n b) (p : Lab n A (fun z => z ∈ [a]) d) (q : Lab n A (fun z => z ∈ [b]) e) : rd d b = rd e a := by
  have b0 : rd e b = 0 := (q.src b hb).2 (List.mem_singleton.2 rfl)
  have a0 : rd d a = 0 := (p.src a ha).2 (List.mem_singleton.2 rfl)
  have l1 := p.lo b hb
  have l2 := q.lo a ha
  rcases Int.lt_or_le (rd d b) 0 with h1 | h1
  · rcases Int.lt_or_le (rd e a) 0 with h2 | h2
    · omega
    · have := lab_tri sym q p (rd e a).toNat a ha (by omega) (by omega)
      omega
  · have t1 := lab_tri sym p q (rd d b).toNat b hb (by omega) (by omega)
    have t2 := lab_tri sym q p (rd e a).toNat a ha (by omega) (by omega)
    omega

/-! pairs of adjacent free cells: all that is around all is each pair twice -/
theorem mem_freeL (c : ByteArray) (d : Nat) : ∀ (i z : Int), z ∈ freeList c d i ↔ i ≤ z ∧ z < i + d ∧ bt c z ≠ 35 := by
  induction d with
  | zero => intro i z; simp only [freeList, List.not_mem_nil, false_iff]; omega
  | succ d ih =>
    intro i z
    rw [freeList, List.mem_append, ih]
    constructor
    · rintro (h | h)
      · split at h
        · rename_i hb
          rw [List.mem_singleton] at h
          subst h
          exact ⟨by omega, by omega, hb⟩
        · cases h
      · exact ⟨by omega, by omega, h.2.2⟩
    · rintro ⟨h1, h2, h3⟩
      by_cases e : z = i
      · subst e
        exact .inl (by rw [if_pos h3]; exact List.mem_singleton.2 rfl)
      · exact .inr ⟨by omega, by omega, h3⟩

theorem mem_freeC {w h : Int} {c : ByteArray} {z : Int} : z ∈ freeCells w h c ↔ freeAt w h c z = true := by
  unfold freeCells
  rw [freeAt_iff]
  by_cases g : gridOk w h c = true
  · rw [if_pos g, mem_freeL]
    constructor
    · rintro ⟨a, b, d⟩; exact ⟨g, a, by omega, d⟩
    · rintro ⟨_, a, b, d⟩; exact ⟨a, by omega, d⟩
  · rw [if_neg g]
    constructor
    · intro hz; cases hz
    · rintro ⟨a, _⟩; exact absurd a g

theorem freeL_nodup (c : ByteArray) (d : Nat) : ∀ i : Int, (freeList c d i).Nodup := by
  induction d with
  | zero => intro i; exact List.nodup_nil
  | succ d ih =>
    intro i
    rw [freeList]
    split
    · rw [List.singleton_append, List.nodup_cons]
      exact ⟨fun hm => by have := ((mem_freeL c d _ _).1 hm).1; omega, ih _⟩
    · exact ih _

theorem freeC_nodup (w h : Int) (c : ByteArray) : (freeCells w h c).Nodup := by
  unfold freeCells
  split
  · exact freeL_nodup _ _ _
  · exact List.nodup_nil

def sumL : List Int → (Int → Int) → Int
  | [], _ => 0
  | x :: F, f => f x + sumL F f

theorem sumL_congr {F : List Int} {f g : Int → Int} (h : ∀ x, x ∈ F → f x = g x) : sumL F f = sumL F g := by
  induction F with
  | nil => rfl
  | cons x F ih => rw [sumL, sumL, h x (List.mem_cons_self ..), ih (fun y hy => h y (List.mem_cons_of_mem _ hy))]

theorem sumL_add (F : List Int) (f g : Int → Int) : sumL F (fun x => f x + g x) = sumL F f + sumL F g := by
  induction F with
  | nil => rfl
  | cons x F ih => rw [sumL, sumL, sumL, ih]; omega

theorem sumL_zero (F : List Int) : sumL F (fun _ => 0) = 0 := by
  induction F with
  | nil => rfl
  | cons x F ih => rw [sumL, ih]; rfl

theorem sumL_comm (F G : List Int) (f : Int → Int → Int) : sumL F (fun x => sumL G (fun y => f x y)) = sumL G (fun y => sumL F (fun x => f x y)) := by
  induction F with
  | nil => exact (sumL_zero G).symm
  | cons x F ih => rw [sumL, ih, ← sumL_add]; rfl

theorem sumL_bound {F : List Int} {f : Int → Int} {B : Int} (h : ∀ x, x ∈ F → 0 ≤ f x ∧ f x ≤ B) : 0 ≤ sumL F f ∧ sumL F f ≤ B * F.length := by
  induction F with
  | nil => exact ⟨Int.le_refl _, by simp [sumL]⟩
  | cons x F ih =>
    have a := h x (List.mem_cons_self ..)
    have b := ih (fun y hy => h y (List.mem_cons_of_mem _ hy))
    rw [sumL, List.length_cons, Int.natCast_add, Int.mul_add]
    simp only [Int.natCast_one, Int.mul_one]
    omega

theorem sumL_one {F : List Int} (hn : F.Nodup) {y : Int} (hy : y ∈ F) : sumL F (fun x => if x = y then 1 else 0) = 1 := by
  induction F with
  | nil => cases hy
  | cons x F ih =>
    rw [List.nodup_cons] at hn
    rw [sumL]
    rcases List.mem_cons.1 hy with e | e
    · subst e
      rw [if_pos rfl, sumL_congr (g := fun _ => 0) (fun z hz => if_neg (fun e => hn.1 (by rw [← e]; exact hz))), sumL_zero]
      rfl
    · rw [if_neg (fun e2 : x = y => hn.1 (by rw [e2]; exact e)), ih hn.2 e]
      rfl

/-- the length of a list without repetition, told by its members -/
theorem sumL_len {F L : List Int} (hF : F.Nodup) (hL : L.Nodup) (hs : ∀ x, x ∈ L → x ∈ F) : (L.length : Int) = sumL F (fun x => if x ∈ L then 1 else 0) := by
  induction L with
  | nil => rw [sumL_congr (g := fun _ => 0) (fun x _ => if_neg (by simp)), sumL_zero]; rfl
  | cons y L ih =>
    rw [List.nodup_cons] at hL
    have a := ih hL.2 (fun x hx => hs x (List.mem_cons_of_mem _ hx))
    have b := sumL_one hF (hs y (List.mem_cons_self ..))
    have e : sumL F (fun x => if x ∈ y :: L then (1 : Int) else 0) = sumL F (fun x => (if x = y then (1 : Int) else 0) + (if x ∈ L then 1 else 0)) := sumL_congr (fun x _ => by
      by_cases h1 : x = y
      · subst h1
        rw [if_pos (List.mem_cons_self ..), if_pos rfl, if_neg hL.1]; rfl
      · by_cases h2 : x ∈ L
        · rw [if_pos (List.mem_cons_of_mem _ h2), if_neg h1, if_pos h2]; rfl
        · rw [if_neg (fun hm => (List.mem_cons.1 hm).elim h1 h2), if_neg h1, if_neg h2]; rfl)
    rw [e, sumL_add, ← a, b, List.length_cons]
    omega

theorem around_nodup (w h : Int) (c : ByteArray) (x : Int) : (around w h c x).Nodup := by
  unfold around
  split
  · rename_i hf
    have g := (freeAt_iff.1 hf).1
    have hw := (gridOk_side g).1
    have h1 : w = 1 → x % w = 0 := fun e => by rw [e]; omega
    unfold addIf
    by_cases c1 : 0 < x % w
    · by_cases c2 : x % w < w - 1
      · rw [decide_eq_true c1, decide_eq_true c2]
        cases freeAt w h c (x - w) <;> cases freeAt w h c (x - 1) <;> cases freeAt w h c (x + 1) <;> cases freeAt w h c (x + w) <;> simp <;> omega
      · rw [decide_eq_true c1, decide_eq_false c2]
        cases freeAt w h c (x - w) <;> cases freeAt w h c (x - 1) <;> cases freeAt w h c (x + w) <;> simp <;> omega
    · by_cases c2 : x % w < w - 1
      · rw [decide_eq_false c1, decide_eq_true c2]
        cases freeAt w h c (x - w) <;> cases freeAt w h c (x + 1) <;> cases freeAt w h c (x + w) <;> simp <;> omega
      · rw [decide_eq_false c1, decide_eq_false c2]
        cases freeAt w h c (x - w) <;> cases freeAt w h c (x + w) <;> simp <;> omega
  · exact List.nodup_nil

theorem around_ne {w h : Int} {c : ByteArray} {x y : Int} (hy : y ∈ around w h c x) : y ≠ x := by
  obtain ⟨hf, _, h⟩ := mem_around.1 hy
  have hw := (gridOk_side (freeAt_iff.1 hf).1).1
  omega

/-- how many pairs there are -/
def pairsOf (w h : Int) (c : ByteArray) : Int := sumL (freeCells w h c) (fun a => (((around w h c a).filter (fun b => decide (a < b))).length : Int))
def allAround (w h : Int) (c : ByteArray) : Int := sumL (freeCells w h c) (fun a => ((around w h c a).length : Int))

theorem pairs_twice (w h : Int) (c : ByteArray) : allAround w h c = 2 * pairsOf w h c := by
  have hF := freeC_nodup w h c
  have hin : ∀ a b, b ∈ around w h c a → b ∈ freeCells w h c := fun a b hb => mem_freeC.2 (mem_around.1 hb).2.1
  have e1 : allAround w h c = sumL (freeCells w h c) (fun a => sumL (freeCells w h c) (fun b => if b ∈ around w h c a then 1 else 0)) := sumL_congr (fun a _ => sumL_len hF (around_nodup w h c a) (fun b hb => hin a b hb))
  have e2 : pairsOf w h c = sumL (freeCells w h c) (fun a => sumL (freeCells w h c) (fun b => if b ∈ around w h c a ∧ a < b then 1 else 0)) := sumL_congr (fun a _ => by
    rw [sumL_len hF ((around_nodup w h c a).filter _) (fun b hb => hin a b (List.mem_filter.1 hb).1)]
    refine sumL_congr (fun b _ => ?_)
    by_cases hb : b ∈ around w h c a ∧ a < b
    · rw [if_pos hb, if_pos (List.mem_filter.2 ⟨hb.1, decide_eq_true hb.2⟩)]
    · rw [if_neg hb, if_neg (fun hm => hb ⟨(List.mem_filter.1 hm).1, of_decide_eq_true (List.mem_filter.1 hm).2⟩)])
  have e3 : sumL (freeCells w h c) (fun a => sumL (freeCells w h c) (fun b => if b ∈ around w h c a ∧ b < a then (1 : Int) else 0)) = pairsOf w h c := by
    rw [sumL_comm, e2]
    refine sumL_congr (fun b _ => sumL_congr (fun a _ => ?_))
    by_cases hb : b ∈ around w h c a ∧ b < a
    · rw [if_pos hb, if_pos ⟨around_symm hb.1, hb.2⟩]
    · rw [if_neg hb, if_neg (fun hh => hb ⟨around_symm hh.1, hh.2⟩)]
  have e4 : sumL (freeCells w h c) (fun a => sumL (freeCells w h c) (fun b => if b ∈ around w h c a then (1 : Int) else 0)) = sumL (freeCells w h c) (fun a => sumL (freeCells w h c) (fun b => if b ∈ around w h c a ∧ a < b then (1 : Int) else 0) + sumL (freeCells w h c) (fun b => if b ∈ around w h c a ∧ b < a then (1 : Int) else 0)) := sumL_congr (fun a _ => by
    rw [← sumL_add]
    refine sumL_congr (fun b _ => ?_)
    by_cases hb : b ∈ around w h c a
    · have := around_ne hb
      rw [if_pos hb]
      by_cases hlt : a < b
      · rw [if_pos ⟨hb, hlt⟩, if_neg (fun hh => by omega)]; rfl
      · rw [if_neg (fun hh => hlt hh.2), if_pos ⟨hb, by omega⟩]; rfl
    · rw [if_neg hb, if_neg (fun hh => hb hh.1), if_neg (fun hh => hb hh.1)]; rfl)
  rw [e1, e4, sumL_add, ← e2, e3]
  omega

theorem allAround_bound (w h : Int) (c : ByteArray) : 0 ≤ allAround w h c ∧ allAround w h c ≤ 256 := by
  have a := sumL_bound (F := freeCells w h c) (f := fun a => ((around w h c a).length : Int)) (B := 4) (fun x _ => by have := around_len w h c x; omega)
  have b := freeCells_len w h c
  unfold allAround
  omega

/-! impl.GridOk -/
theorem impl_cells (w h : Int) (c : ByteArray) (hc : c.size ≤ 64) (d : Nat) : ∀ i : Int, 0 ≤ i → i + d = c.size → Ev (fun k => impl_GridOk.l0 k i w h c) (cellsOk c d i) := by
  induction d with
  | zero => intro i h0 h1; exact Ev.step (f := fun _ => some true) (fun k => by rw [impl_GridOk.l0, if_neg (by omega)]) (Ev.now _)
  | succ d ih =>
    intro i h0 h1
    rw [cellsOk]
    have hnext := ih (i + 1) (by omega) (by omega)
    have hw : wrap64 (i + 1) = i + 1 := w64 (by omega) (by omega)
    cases hk : cellOk (bt c i) with
    | true =>
      have hk2 := of_decide_eq_true hk
      refine Ev.step (f := fun k => impl_GridOk.l0 k (i + 1) w h c) (fun k => ?_) hnext
      rw [impl_GridOk.l0, if_pos (by omega), if_pos h0, hw]
      repeat' split
      all_goals first | rfl | omega
    | false =>
      have hk2 := of_decide_eq_false hk
      refine Ev.step (f := fun k => some false) (fun k => ?_) (Ev.now _)
      rw [impl_GridOk.l0, if_pos (by omega), if_pos h0, hw]
      repeat' split
      all_goals first | rfl | omega

theorem iGridOk (w h : Int) (c : ByteArray) : Ev (fun k => impl_GridOk.f k w h c) (gridOk w h c) := by
  have bad : ∀ hn : ¬ sideOk w h c, Ev (fun k => impl_GridOk.j0 k true w h c) (gridOk w h c) := fun hn => by
    have : gridOk w h c = false := by unfold gridOk; rw [decide_eq_false hn]; rfl
    rw [this]
    exact Ev.step (fun k => by rw [impl_GridOk.j0, if_pos rfl]) (Ev.now _)
  by_cases h1 : w < 1
  · exact Ev.congr (fun k => by unfold impl_GridOk.f; rw [if_pos h1]) (bad (fun hs => by have := hs.1; omega))
  by_cases h2 : w > 8
  · exact Ev.congr (fun k => by unfold impl_GridOk.f; rw [if_neg h1, if_pos h2]) (bad (fun hs => by have := hs.2.1; omega))
  by_cases h3 : h < 1
  · exact Ev.congr (fun k => by unfold impl_GridOk.f; rw [if_neg h1, if_neg h2, if_pos h3]) (bad (fun hs => by have := hs.2.2.1; omega))
  by_cases h4 : h > 8
  · exact Ev.congr (fun k => by unfold impl_GridOk.f; rw [if_neg h1, if_neg h2, if_neg h3, if_pos h4]) (bad (fun hs => by have := hs.2.2.2.1; omega))
  have hm := side_mul (w := w) (h := h) (by omega) (by omega) (by omega) (by omega)
  have hw : wrap64 (w * h) = w * h := w64 (by omega) (by omega)
  refine Ev.congr (fun k => by unfold impl_GridOk.f; rw [if_neg h1, if_neg h2, if_neg h3, if_neg h4, hw]) ?_
  by_cases h5 : (c.size : Int) = w * h
  · have : gridOk w h c = cellsOk c c.size 0 := by unfold gridOk; rw [decide_eq_true (show sideOk w h c from ⟨by omega, by omega, by omega, by omega, h5⟩)]; rfl
    rw [this]
    exact Ev.step (fun k => by rw [impl_GridOk.j0, if_neg (by simpa using h5)]) (impl_cells w h c (by omega) c.size 0 (by omega) (by omega))
  · have : ((c.size : Int) != w * h) = true := by simpa using h5
    rw [this]
    exact bad (fun hs => h5 hs.2.2.2.2)

/-! impl.isFree -/
theorem isFree_eq {w h : Int} {c : ByteArray} (g : gridOk w h c = true) (x : Int) : impl_isFree.f w h c x = some (freeAt w h c x) := by
  unfold freeAt impl_isFree.f
  rw [g]
  simp only [Bool.true_and]
  by_cases h0 : x ≥ 0
  · by_cases h1 : x < (c.size : Int)
    · rw [if_pos h0, if_pos h1, if_pos (by omega), decide_eq_true (show 0 ≤ x ∧ x < (c.size : Int) from ⟨h0, h1⟩), Bool.true_and]
      congr 1
      rw [Bool.eq_iff_iff, bne_iff_ne, decide_eq_true_eq]
    · rw [if_pos h0, if_neg h1, decide_eq_false (fun hh : 0 ≤ x ∧ x < (c.size : Int) => h1 hh.2)]
      rfl
  · rw [if_neg h0, decide_eq_false (fun hh : 0 ≤ x ∧ x < (c.size : Int) => h0 hh.1)]
    rfl

/-! impl.around, impl.Around -/
theorem iaround_ev {w h : Int} {c : ByteArray} (g : gridOk w h c = true) {x : Int} (hx0 : -9000000000000000000 ≤ x) (hx1 : x ≤ 9000000000000000000) : Ev (fun k => impl_around.f k w h c x) (around w h c x) := by
  obtain ⟨h1, h2, h3, h4, h5⟩ := gridOk_side g
  have hs := gridOk_size g
  have w1 : wrap64 (x - w) = x - w := w64 (by omega) (by omega)
  have w2 : wrap64 (x - 1) = x - 1 := w64 (by omega) (by omega)
  have w3 : wrap64 (x + 1) = x + 1 := w64 (by omega) (by omega)
  have w4 : wrap64 (x + w) = x + w := w64 (by omega) (by omega)
  have w5 : wrap64 (w - 1) = w - 1 := w64 (by omega) (by omega)
  have hw : ¬ w = 0 := by omega
  unfold around
  cases hf : freeAt w h c x with
  | false => exact Ev.of_eq fun k => by unfold impl_around.f; rw [isFree_eq g, hf, Option.bind_some, if_neg (by simp), if_neg (by simp)]
  | true =>
    rw [if_pos rfl]
    have hx := freeAt_iff.mp hf
    have tm : Int.tmod x w = x % w := Int.tmod_eq_emod_of_nonneg hx.2.1
    have last : ∀ acc : List Int, acc.length ≤ 10 → ∀ b : Bool, Ev (fun k => impl_around.j3 k x acc b w h c) (acc ++ (addIf b (x + 1) ++ addIf (freeAt w h c (x + w)) (x + w))) := fun acc ha b => by
      refine Ev.step (fun k => by rw [impl_around.j3, isFree_eq g, w4, w3]) ?_
      cases b with
      | true =>
        cases hq : freeAt w h c (x + w) with
        | true => exact Ev.of_eq fun k => by rw [if_pos rfl, if_pos (by omega), Option.bind_some, Option.bind_some, if_pos rfl, if_pos (by simp; omega)]; simp [addIf]
        | false => exact Ev.of_eq fun k => by rw [if_pos rfl, if_pos (by omega), Option.bind_some, Option.bind_some, if_neg (by simp)]; simp [addIf]
      | false =>
        cases hq : freeAt w h c (x + w) with
        | true => exact Ev.of_eq fun k => by rw [if_neg (by simp), Option.bind_some, if_pos rfl, if_pos (by omega)]; simp [addIf]
        | false => exact Ev.of_eq fun k => by rw [if_neg (by simp), Option.bind_some, if_neg (by simp)]; simp [addIf]
    have right : ∀ acc : List Int, acc.length ≤ 9 → Ev (fun k => impl_around.j2 k x acc w h c) (acc ++ (addIf (decide (x % w < w - 1) && freeAt w h c (x + 1)) (x + 1) ++ addIf (freeAt w h c (x + w)) (x + w))) := fun acc ha => by
      by_cases hc : x % w < w - 1
      · exact Ev.step (fun k => by rw [impl_around.j2, if_neg hw, tm, w5, if_pos hc, w3, isFree_eq g, Option.bind_some, decide_eq_true hc, Bool.true_and]) (last acc (by omega) _)
      · exact Ev.step (fun k => by rw [impl_around.j2, if_neg hw, tm, w5, if_neg hc, decide_eq_false hc, Bool.false_and]) (last acc (by omega) _)
    have left1 : ∀ acc : List Int, acc.length ≤ 8 → ∀ b : Bool, Ev (fun k => impl_around.j1 k x acc b w h c) (acc ++ (addIf b (x - 1) ++ (addIf (decide (x % w < w - 1) && freeAt w h c (x + 1)) (x + 1) ++ addIf (freeAt w h c (x + w)) (x + w)))) := fun acc ha b => by
      cases b with
      | true =>
        have := right (acc ++ [x - 1]) (by simp; omega)
        rw [List.append_assoc] at this
        exact Ev.step (fun k => by rw [impl_around.j1, if_pos rfl, if_pos (by omega), w2]) this
      | false => exact Ev.step (fun k => by rw [impl_around.j1, if_neg (by simp)]) (right acc (by omega))
    have left : ∀ acc : List Int, acc.length ≤ 8 → Ev (fun k => impl_around.j0 k x acc w h c) (acc ++ (addIf (decide (0 < x % w) && freeAt w h c (x - 1)) (x - 1) ++ (addIf (decide (x % w < w - 1) && freeAt w h c (x + 1)) (x + 1) ++ addIf (freeAt w h c (x + w)) (x + w)))) := fun acc ha => by
      by_cases hc : 0 < x % w
      · exact Ev.step (fun k => by rw [impl_around.j0, if_neg hw, tm, if_pos hc, w2, isFree_eq g, Option.bind_some, decide_eq_true hc, Bool.true_and]) (left1 acc ha _)
      · exact Ev.step (fun k => by rw [impl_around.j0, if_neg hw, tm, if_neg hc, decide_eq_false hc, Bool.false_and]) (left1 acc ha _)
    cases hq : freeAt w h c (x - w) with
    | true =>
      have := left ([] ++ [x - w]) (by simp)
      exact Ev.congr (fun k => by unfold impl_around.f; rw [isFree_eq g, hf, Option.bind_some, if_pos rfl, w1, isFree_eq g, hq, Option.bind_some, if_pos rfl, if_pos (by simp)]) this
    | false =>
      have := left [] (by simp)
      exact Ev.congr (fun k => by unfold impl_around.f; rw [isFree_eq g, hf, Option.bind_some, if_pos rfl, w1, isFree_eq g, hq, Option.bind_some, if_neg (by simp)]) this

/-! impl.FreeCells -/
theorem iFree_l0 {w h : Int} {c : ByteArray} (g : gridOk w h c = true) (d : Nat) : ∀ (i : Int) (acc : List Int), 0 ≤ i → i + d = c.size → acc.length + d ≤ 100 →
    Ev (fun k => impl_FreeCells.l0 k acc i w h c) (acc ++ freeList c d i) := by
  have hs := gridOk_size g
  induction d with
  | zero =>
    intro i acc h0 h1 h2
    rw [freeList, List.append_nil]
    exact Ev.step (f := fun _ => some acc) (fun k => by rw [impl_FreeCells.l0, if_neg (by omega)]) (Ev.now _)
  | succ d ih =>
    intro i acc h0 h1 h2
    have hw : wrap64 (i + 1) = i + 1 := w64 (by omega) (by omega)
    rw [freeList]
    by_cases hb : bt c i ≠ 35
    · rw [if_pos hb, ← List.append_assoc]
      exact Ev.step (fun k => by rw [impl_FreeCells.l0, if_pos (by omega), isFree_eq g, freeAt_in g h0 (by omega), decide_eq_true hb, Option.bind_some, if_pos rfl, if_pos (by omega), hw]) (ih (i + 1) (acc ++ [i]) (by omega) (by omega) (by simp; omega))
    · rw [if_neg hb, List.nil_append]
      exact Ev.step (fun k => by rw [impl_FreeCells.l0, if_pos (by omega), isFree_eq g, freeAt_in g h0 (by omega), decide_eq_false hb, Option.bind_some, if_neg (by simp), hw]) (ih (i + 1) acc (by omega) (by omega) (by omega))

theorem iFreeCells (w h : Int) (c : ByteArray) : Ev (fun k => impl_FreeCells.f k w h c) (freeCells w h c) := by
  refine Ev.bind (iGridOk w h c) ?_
  unfold freeCells
  cases g : gridOk w h c with
  | false => exact Ev.of_eq fun k => by rw [if_neg (by simp), if_neg (by simp)]
  | true =>
    rw [if_pos rfl]
    have hs := gridOk_size g
    have h0 := iFree_l0 g c.size 0 [] (by omega) (by omega) (by simp; omega)
    rw [List.nil_append] at h0
    exact Ev.congr (fun k => by rw [if_pos rfl]) h0

/-! impl.PairsOf -/
theorem iPairs_l1 (w h : Int) (c : ByteArray) (F : List Int) (a i : Int) (L : List Int) (hL : L.length ≤ 4) (N : Nat) (hN : N ≤ 1000) (Q : List _ → Prop)
    (next : ∀ acc, acc.length = N → ∃ r, Ev (fun k => impl_pairs.l0 k acc F (F.length : Int) (wrap64 (i + 1)) w h c) r ∧ Q r) (d : Nat) :
    ∀ (j : Nat) acc, j + d = L.length → acc.length + ((L.drop j).filter (fun b => decide (a < b))).length = N → ∃ r, Ev (fun k => impl_pairs.l1 k acc a F (F.length : Int) i L (L.length : Int) j w h c) r ∧ Q r := by
  induction d with
  | zero =>
    intro j acc hj hacc
    rw [List.drop_eq_nil_of_le (by omega)] at hacc
    obtain ⟨r, h1, h2⟩ := next acc (by simpa using hacc)
    exact ⟨r, Ev.step (fun k => by rw [impl_pairs.l1, if_neg (by omega)]) h1, h2⟩
  | succ d ih =>
    intro j acc hj hacc
    have hw : wrap64 ((j : Int) + 1) = ((j + 1 : Nat) : Int) := by rw [w64 (by omega) (by omega)]; omega
    have e : rd L (j : Int) = L.getD j 0 := by unfold rd; rw [Int.toNat_natCast]
    rw [drop_cons L j 0 (by omega), List.filter_cons] at hacc
    by_cases hb : a < L.getD j 0
    · rw [decide_eq_true hb, if_pos rfl, List.length_cons] at hacc
      obtain ⟨r, h1, h2⟩ := ih (j + 1) (acc ++ [⟨a, L.getD j 0⟩]) (by omega) (by rw [List.length_append, List.length_singleton]; omega)
      exact ⟨r, Ev.step (fun k => by rw [impl_pairs.l1, if_pos (by omega), if_pos (by omega), if_pos (by omega), e, if_pos hb, if_pos (by omega), hw]) h1, h2⟩
    · rw [decide_eq_false hb, if_neg (by simp)] at hacc
      obtain ⟨r, h1, h2⟩ := ih (j + 1) acc (by omega) hacc
      exact ⟨r, Ev.step (fun k => by rw [impl_pairs.l1, if_pos (by omega), if_pos (by omega), if_pos (by omega), e, if_neg hb, hw]) h1, h2⟩

theorem iPairs_l0 (w h : Int) (c : ByteArray) (g : gridOk w h c = true) (F : List Int) (hF : F.length ≤ 64) (hm : ∀ x, x ∈ F → 0 ≤ x ∧ x ≤ 64) (d : Nat) : ∀ (i : Nat) acc, i + d = F.length → acc.length ≤ 4 * i →
    ∃ r, Ev (fun k => impl_pairs.l0 k acc F (F.length : Int) i w h c) r ∧ (r.length : Int) = acc.length + sumL (F.drop i) (fun a => (((around w h c a).filter (fun b => decide (a < b))).length : Int)) := by
  induction d with
  | zero =>
    intro i acc hi ha
    refine ⟨acc, Ev.step (f := fun _ => some acc) (fun k => by rw [impl_pairs.l0, if_neg (by omega)]) (Ev.now _), ?_⟩
    rw [List.drop_eq_nil_of_le (by omega), sumL]
    omega
  | succ d ih =>
    intro i acc hi ha
    have hw : wrap64 ((i : Int) + 1) = ((i + 1 : Nat) : Int) := by rw [w64 (by omega) (by omega)]; omega
    have e : rd F (i : Int) = F.getD i 0 := by unfold rd; rw [Int.toNat_natCast]
    have hx := hm (F.getD i 0) (by
      rw [List.getD_eq_getElem?_getD, List.getElem?_eq_getElem (show i < F.length by omega)]
      exact List.getElem_mem (show i < F.length by omega))
    have hl := around_len w h c (F.getD i 0)
    have hfl := List.length_filter_le (fun b => decide (F.getD i 0 < b)) (around w h c (F.getD i 0))
    rw [drop_cons F i 0 (by omega), sumL]
    obtain ⟨r, h1, h2⟩ := iPairs_l1 w h c F (F.getD i 0) i (around w h c (F.getD i 0)) hl (acc.length + ((around w h c (F.getD i 0)).filter (fun b => decide (F.getD i 0 < b))).length) (by omega) (fun r => (r.length : Int) = ((acc.length + ((around w h c (F.getD i 0)).filter (fun b => decide (F.getD i 0 < b))).length : Nat) : Int) + sumL (F.drop (i + 1)) (fun a => (((around w h c a).filter (fun b => decide (a < b))).length : Int))) (fun acc' hacc' => by
      rw [hw]
      obtain ⟨r, h1, h2⟩ := ih (i + 1) acc' (by omega) (by omega)
      exact ⟨r, h1, by rw [h2, hacc']⟩) (around w h c (F.getD i 0)).length 0 acc (Nat.zero_add _) (by rw [List.drop_zero])
    rw [show ((0 : Nat) : Int) = 0 from rfl] at h1
    refine ⟨r, Ev.step (fun k => by rw [impl_pairs.l0, if_pos (by omega), if_pos (by omega), if_pos (by omega), e]) (Ev.bind (iaround_ev g (by omega) (by omega)) h1), ?_⟩
    rw [h2]
    omega

theorem iPairsOf (w h : Int) (c : ByteArray) : Ev (fun k => impl_PairsOf.f k w h c) (pairsOf w h c) := by
  by_cases g : gridOk w h c = true
  · have hg := (gridOk_size g).2
    obtain ⟨r, h1, h2⟩ := iPairs_l0 w h c g (freeCells w h c) (freeCells_len w h c) (fun x hx => by
      have := (freeAt_iff.1 (mem_freeC.1 hx)).2
      omega) (freeCells w h c).length 0 [] (Nat.zero_add _) (Nat.zero_le _)
    rw [show ((0 : Nat) : Int) = 0 from rfl] at h1
    rw [List.drop_zero, List.length_nil] at h2
    have e : (r.length : Int) = pairsOf w h c := by rw [h2]; unfold pairsOf; omega
    have h3 : Ev (fun k => impl_pairs.f k w h c) r := Ev.bind (iFreeCells w h c) h1
    exact Ev.bind h3 (Ev.of_eq fun k => by rw [e])
  · have hF : freeCells w h c = [] := by unfold freeCells; rw [if_neg g]
    have hf := iFreeCells w h c
    rw [hF] at hf
    have e : pairsOf w h c = 0 := by unfold pairsOf; rw [hF]; rfl
    have h3 : Ev (fun k => impl_pairs.f k w h c) [] := Ev.bind hf (Ev.step (f := fun _ => some []) (fun k => by rw [impl_pairs.l0, if_neg (by simp)]) (Ev.now _))
    rw [e]
    exact Ev.bind h3 (Ev.of_eq fun k => rfl)

/-! impl.Around -/
theorem iaround_any {w h : Int} {c : ByteArray} (g : gridOk w h c = true) (x : Int) (hx0 : -9223372036854775808 ≤ x) (hx1 : x ≤ 9223372036854775807) : Ev (fun k => impl_around.f k w h c x) (around w h c x) := by
  by_cases hb : -9000000000000000000 ≤ x ∧ x ≤ 9000000000000000000
  · exact iaround_ev g hb.1 hb.2
  · have hs := gridOk_size g
    have hf : freeAt w h c x = false := by
      by_cases hn : x < 0
      · exact freeAt_low hn
      · exact freeAt_high (by omega)
    unfold around
    rw [hf, if_neg (by simp)]
    exact Ev.of_eq fun k => by unfold impl_around.f; rw [isFree_eq g, hf, Option.bind_some, if_neg (by simp)]

theorem around_bad {w h : Int} {c : ByteArray} (g : gridOk w h c = false) (x : Int) : around w h c x = [] := by
  unfold around freeAt
  rw [g, Bool.false_and, if_neg (by simp)]

theorem iAround (w h : Int) (c : ByteArray) (x : Int) (hx : (Lit.int .i64 x).wf = true) : Ev (fun k => impl_Around.f k w h c x) (around w h c x) := by
  have hb := wf64 hx
  refine Ev.bind (iGridOk w h c) ?_
  cases g : gridOk w h c with
  | false => rw [around_bad g]; exact Ev.of_eq fun k => by rw [if_neg (by simp)]
  | true => exact Ev.congr (fun k => by rw [if_pos rfl]) (Ev.bind (iaround_any g x hb.1 hb.2) (Ev.now _))

/-! slices.Contains -/
theorem index_l0 (xs : List Int) (v : Int) (hx : xs.length ≤ 1048576) (d : Nat) : ∀ i : Nat, i + d = xs.length → ∃ r, Ev (fun k => slices_Index_int_int.l0 k xs v (xs.length : Int) i) r ∧ decide (r ≥ 0) = (xs.drop i).contains v := by
  induction d with
  | zero =>
    intro i h
    have : xs.drop i = [] := List.drop_eq_nil_of_le (by omega)
    rw [this]
    exact ⟨-1, Ev.step (f := fun _ => some (-1)) (fun k => by rw [slices_Index_int_int.l0, if_neg (by omega)]) (Ev.now _), rfl⟩
  | succ d ih =>
    intro i h
    have e : rd xs (i : Int) = xs.getD i 0 := by unfold rd; rw [Int.toNat_natCast]
    have hw : wrap64 ((i : Int) + 1) = ((i + 1 : Nat) : Int) := by rw [w64 (by omega) (by omega)]; omega
    rw [drop_cons xs i 0 (by omega), List.contains_cons]
    by_cases hv : v = xs.getD i 0
    · rw [beq_iff_eq.mpr hv, Bool.true_or]
      exact ⟨i, Ev.step (f := fun _ => some (i : Int)) (fun k => by rw [slices_Index_int_int.l0, if_pos (by omega), if_pos (by omega), if_pos (by omega), e, if_pos hv]) (Ev.now _), by simp⟩
    · rw [beq_eq_false_iff_ne.mpr hv, Bool.false_or]
      obtain ⟨r, hr, hd⟩ := ih (i + 1) (by omega)
      exact ⟨r, Ev.step (fun k => by rw [slices_Index_int_int.l0, if_pos (by omega), if_pos (by omega), if_pos (by omega), e, if_neg hv, hw]) hr, hd⟩

theorem contains_ev (xs : List Int) (v : Int) (hx : xs.length ≤ 1048576) : Ev (fun k => slices_Contains_int_int.f k xs v) (xs.contains v) := by
  obtain ⟨r, hr, hd⟩ := index_l0 xs v hx xs.length 0 (Nat.zero_add _)
  rw [List.drop_zero] at hd
  rw [show ((0 : Nat) : Int) = 0 from rfl] at hr
  rw [← hd]
  exact Ev.bind hr (Ev.now _)

/-! impl.Beside -/
theorem iBeside (w h : Int) (c : ByteArray) (x y : Int) (hx : (Lit.int .i64 x).wf = true) : Ev (fun k => impl_Beside.f k w h c x y) ((around w h c x).contains y) :=
  Ev.bind (iAround w h c x hx) (Ev.bind (contains_ev _ y (by have := around_len w h c x; omega)) (Ev.now _))

/-! impl.SpotOf -/
theorem iSpotOf (w h : Int) (c : ByteArray) (x : Int) : Ev (fun k => impl_SpotOf.f k w h c x) (spotOf w h c x) := by
  refine Ev.bind (iGridOk w h c) ?_
  unfold spotOf
  cases hg : gridOk w h c with
  | false =>
    rw [if_neg (by simp)]
    exact Ev.of_eq fun k => by rw [if_neg (by simp)]
  | true =>
    obtain ⟨h1, h2, h3, h4, h5⟩ := gridOk_side hg
    have hz := gridOk_size hg
    refine Ev.of_eq fun k => ?_
    rw [if_pos rfl]
    by_cases a : x < 0
    · rw [if_pos a, if_neg (by omega)]
    · rw [if_neg a]
      by_cases b : x ≥ (c.size : Int)
      · rw [if_pos b, if_neg (by omega)]
      · have hr := spot_bounds (x := x) h1 h2 (by omega) (by omega)
        rw [if_neg b, if_neg (by omega), if_pos ⟨rfl, by omega, by omega⟩, Int.tmod_eq_emod_of_nonneg (by omega), Int.tdiv_eq_ediv_of_nonneg (by omega), w64 (by omega) (by omega)]

/-! impl.CellAt -/
theorem iCellAt (w h : Int) (c : ByteArray) (x y : Int) : Ev (fun k => impl_CellAt.f k w h c x y) (cellAt w h c x y) := by
  refine Ev.bind (iGridOk w h c) ?_
  unfold cellAt
  cases hg : gridOk w h c with
  | false =>
    rw [if_neg (by simp)]
    exact Ev.of_eq fun k => by rw [if_neg (by simp)]
  | true =>
    obtain ⟨h1, h2, h3, h4, h5⟩ := gridOk_side hg
    refine Ev.of_eq fun k => ?_
    rw [if_pos rfl]
    by_cases a : x < 0
    · rw [if_pos a, if_neg (by omega)]
    · rw [if_neg a]
      by_cases b : x ≥ w
      · rw [if_pos b, if_neg (by omega)]
      · rw [if_neg b]
        by_cases d : y < 0
        · rw [if_pos d, if_neg (by omega)]
        · rw [if_neg d]
          by_cases e : y ≥ h
          · rw [if_pos e, if_neg (by omega)]
          · have hr := row_bounds (y := y) h1 h2 (by omega) (by omega)
            rw [if_neg e, if_pos ⟨rfl, by omega, by omega, by omega, by omega⟩, w64 (x := y * w) (by omega) (by omega), w64 (by omega) (by omega)]

/-! impl.FreeAt -/
theorem iFreeAt (w h : Int) (c : ByteArray) (x : Int) : Ev (fun k => impl_FreeAt.f k w h c x) (freeAt w h c x) := by
  refine Ev.bind (iGridOk w h c) ?_
  cases hg : gridOk w h c with
  | false => simp only [Bool.false_eq_true, if_false, freeAt, hg, Bool.false_and]; exact Ev.now _
  | true => simp only [if_true, isFree_eq hg, Option.bind_some]; exact Ev.now _

end Go.Proofs.Ytpmieegflolflaa.QFnBeside

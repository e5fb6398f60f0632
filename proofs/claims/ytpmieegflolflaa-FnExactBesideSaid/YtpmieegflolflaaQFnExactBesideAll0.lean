/- What the functions that the law FnExactBeside reaches compute: Conv, GridOkS, CellAtS, SpotOfS, FreeAtS, AroundS, Has, BesideS, GridOkI, isFree, AroundI, AroundIF, Contains, BesideI. -/
import Derived.Test.YtpmieegflolflaaPFnExactBesidex
import Derived.Test.YtpmieegflolflaaMBase
import Derived.Test.YtpmieegflolflaaMGrid
import Derived.Test.YtpmieegflolflaaMLists
namespace Go.Proofs.Ytpmieegflolflaa.QFnExactBeside
open Go.RowKit Go.Proofs.Ytpmieegflolflaa.PFnExactBeside Go.Proofs.YtpmieegflolflaaW.PrintWords Go.Proofs.YtpmieegflolflaaW.PrintLast Go.Proofs.YtpmieegflolflaaW.PrintMore Go.Proofs.Ytpmieegflolflaa.MBase Go.Proofs.Ytpmieegflolflaa.MGrid Go.Proofs.Ytpmieegflolflaa.MLists
set_option linter.unusedVariables false
set_option linter.unusedSimpArgs false

/-! szGrid and toGrid -/
theorem szGrid_ev (w h : Int) (c : ByteArray) (hc : c.size ≤ 9223372036854775807) :
    (∃ t, laws_szGrid.f w h c 1048576 = some t ∧ t < 0) ∨ (c.size ≤ 1048576 ∧ ∃ t, laws_szGrid.f w h c 1048576 = some t ∧ ¬ t < 0) := by
  unfold laws_szGrid.f
  rw [w64 (by omega) (by omega)]
  by_cases hb : (1048576 - (c.size : Int)) < 0
  · exact .inl ⟨-1, by rw [if_pos hb], by omega⟩
  · exact .inr ⟨by omega, _, by rw [if_neg hb], hb⟩

/-! spec.GridOk -/
theorem l02Kind_eq (b : Int) : spec_l02Kind.f b = some (cellOk b) := by
  unfold spec_l02Kind.f cellOk
  repeat' split
  all_goals
    congr 1
    first
    | (rw [decide_eq_decide]; omega)
    | (rw [eq_comm, decide_eq_true_eq]; omega)
    | (rw [eq_comm, decide_eq_false_iff_not]; omega)

theorem spec_cells (w h : Int) (c : ByteArray) (hc : c.size ≤ 64) (d : Nat) : ∀ i : Int, 0 ≤ i → i + d = c.size → Ev (fun k => spec_GridOk.l0 k i w h c) (cellsOk c d i) := by
  induction d with
  | zero => intro i h0 h1; exact Ev.step (f := fun _ => some true) (fun k => by rw [spec_GridOk.l0, if_neg (by omega)]) (Ev.now _)
  | succ d ih =>
    intro i h0 h1
    rw [cellsOk]
    cases hk : cellOk (bt c i) with
    | true => exact Ev.step (fun k => by rw [spec_GridOk.l0, if_pos (by omega), if_pos h0, l02Kind_eq, hk, Option.bind_some, if_pos rfl, w64 (by omega) (by omega)]) (ih (i + 1) (by omega) (by omega))
    | false => exact Ev.step (f := fun _ => some false) (fun k => by rw [spec_GridOk.l0, if_pos (by omega), if_pos h0, l02Kind_eq, hk, Option.bind_some, if_neg (by simp)]) (Ev.now _)

theorem sGridOk (w h : Int) (c : ByteArray) : Ev (fun k => spec_GridOk.f k w h c) (gridOk w h c) := by
  have bad : ∀ hn : ¬ sideOk w h c, Ev (fun k => spec_GridOk.j0 k true w h c) (gridOk w h c) := fun hn => by
    have : gridOk w h c = false := by unfold gridOk; rw [decide_eq_false hn]; rfl
    rw [this]
    exact Ev.step (fun k => by rw [spec_GridOk.j0, if_pos rfl]) (Ev.now _)
  by_cases h1' : ¬ w ≥ 1
  · have h1 := h1'
    exact Ev.congr (fun k => by unfold spec_GridOk.f spec_l01In.f; rw [if_neg h1, Option.bind_some, if_neg (by simp)]) (bad (fun hs => h1 hs.1))
  have h1 := Decidable.not_not.mp h1'
  by_cases h2' : ¬ w ≤ 8
  · have h2 := h2'
    exact Ev.congr (fun k => by unfold spec_GridOk.f spec_l01In.f; rw [if_pos h1, Option.bind_some, if_neg (by simpa using h2)]) (bad (fun hs => h2 hs.2.1))
  have h2 := Decidable.not_not.mp h2'
  by_cases h3' : ¬ h ≥ 1
  · have h3 := h3'
    exact Ev.congr (fun k => by unfold spec_GridOk.f spec_l01In.f; rw [if_pos h1, Option.bind_some, if_pos (by simpa using h2), if_neg h3, Option.bind_some, if_neg (by simp)]) (bad (fun hs => h3 hs.2.2.1))
  have h3 := Decidable.not_not.mp h3'
  by_cases h4' : ¬ h ≤ 8
  · have h4 := h4'
    exact Ev.congr (fun k => by unfold spec_GridOk.f spec_l01In.f; rw [if_pos h1, Option.bind_some, if_pos (by simpa using h2), if_pos h3, Option.bind_some, if_neg (by simpa using h4)]) (bad (fun hs => h4 hs.2.2.2.1))
  have h4 := Decidable.not_not.mp h4'
  have hm := side_mul h1 h2 h3 h4
  have hw : wrap64 (w * h) = w * h := w64 (by omega) (by omega)
  refine Ev.congr (fun k => by unfold spec_GridOk.f spec_l01In.f; rw [if_pos h1, Option.bind_some, if_pos (by simpa using h2), if_pos h3, Option.bind_some, if_pos (by simpa using h4), hw]) ?_
  by_cases h5 : (c.size : Int) = w * h
  · have : gridOk w h c = cellsOk c c.size 0 := by unfold gridOk; rw [decide_eq_true (show sideOk w h c from ⟨h1, h2, h3, h4, h5⟩)]; rfl
    rw [this]
    exact Ev.step (fun k => by rw [spec_GridOk.j0, if_neg (by simpa using h5)]) (spec_cells w h c (by omega) c.size 0 (by omega) (by omega))
  · have : ((c.size : Int) != w * h) = true := by simpa using h5
    rw [this]
    exact bad (fun hs => h5 hs.2.2.2.2)

/-! spec.CellAt -/
theorem sCellAt (w h : Int) (c : ByteArray) (x y : Int) : Ev (fun k => spec_CellAt.f k w h c x y) (cellAt w h c x y) := by
  refine Ev.bind (sGridOk w h c) ?_
  unfold cellAt
  cases hg : gridOk w h c with
  | false =>
    rw [if_neg (by simp)]
    exact Ev.of_eq fun k => by rw [if_neg (by simp)]
  | true =>
    obtain ⟨h1, h2, h3, h4, h5⟩ := gridOk_side hg
    have w1 : wrap64 (w - 1) = w - 1 := w64 (by omega) (by omega)
    have w2 : wrap64 (h - 1) = h - 1 := w64 (by omega) (by omega)
    refine Ev.of_eq fun k => ?_
    rw [if_pos rfl, w1, w2]
    unfold spec_l01In.f
    by_cases a : x ≥ 0
    · rw [if_pos a, Option.bind_some]
      by_cases b : x ≤ w - 1
      · rw [if_pos (decide_eq_true b)]
        by_cases d : y ≥ 0
        · rw [if_pos d, Option.bind_some]
          by_cases e : y ≤ h - 1
          · have hr := row_bounds h1 h2 d (show y ≤ 8 by omega)
            rw [if_pos (decide_eq_true e), if_pos ⟨rfl, a, by omega, d, by omega⟩, w64 (x := y * w) (by omega) (by omega), w64 (by omega) (by omega)]
          · rw [if_neg (by simpa using e), if_neg (by omega)]
        · rw [if_neg d, Option.bind_some, if_neg (by simp), if_neg (by omega)]
      · rw [if_neg (by simpa using b), if_neg (by omega)]
    · rw [if_neg a, Option.bind_some, if_neg (by simp), if_neg (by omega)]

/-! spec.SpotOf -/
theorem sSpotOf (w h : Int) (c : ByteArray) (x : Int) : Ev (fun k => spec_SpotOf.f k w h c x) (spotOf w h c x) := by
  refine Ev.bind (sGridOk w h c) ?_
  unfold spotOf
  cases hg : gridOk w h c with
  | false =>
    rw [if_neg (by simp)]
    exact Ev.of_eq fun k => by rw [if_neg (by simp)]
  | true =>
    obtain ⟨h1, h2, h3, h4, h5⟩ := gridOk_side hg
    have hz := gridOk_size hg
    refine Ev.of_eq fun k => ?_
    rw [if_pos rfl]
    by_cases a : x < 0
    · rw [if_pos a, if_neg (by omega)]
    · rw [if_neg a]
      by_cases b : x ≥ (c.size : Int)
      · rw [if_pos b, if_neg (by omega)]
      · have hr := spot_bounds (x := x) h1 h2 (by omega) (by omega)
        rw [if_neg b, if_neg (by omega), if_pos ⟨rfl, by omega, by omega⟩, Int.tmod_eq_emod_of_nonneg (by omega), Int.tdiv_eq_ediv_of_nonneg (by omega), w64 (by omega) (by omega)]

/-! spec.FreeAt -/
theorem sFreeAt (w h : Int) (c : ByteArray) (x : Int) : Ev (fun k => spec_FreeAt.f k w h c x) (freeAt w h c x) := by
  refine Ev.bind (sGridOk w h c) ?_
  unfold freeAt
  cases hg : gridOk w h c with
  | false => simp only [Bool.false_eq_true, if_false, Bool.false_and]; exact Ev.now _
  | true =>
    simp only [if_true, Bool.true_and]
    by_cases h0 : x ≥ 0
    · by_cases h1 : x < (c.size : Int)
      · refine Ev.of_eq fun k => ?_
        rw [if_pos h0, if_pos h1, if_pos (by omega), decide_eq_true (show 0 ≤ x ∧ x < (c.size : Int) from ⟨h0, h1⟩), Bool.true_and]
        congr 1
        rw [Bool.eq_iff_iff, bne_iff_ne, decide_eq_true_eq]
      · refine Ev.of_eq fun k => ?_
        rw [if_pos h0, if_neg h1, decide_eq_false (fun hh : 0 ≤ x ∧ x < (c.size : Int) => h1 hh.2)]
        rfl
    · refine Ev.of_eq fun k => ?_
      rw [if_neg h0, decide_eq_false (fun hh : 0 ≤ x ∧ x < (c.size : Int) => h0 hh.1)]
      rfl

/-! spec.Around -/
theorem sAround_l0 (w h : Int) (c : ByteArray) (v0 v1 v2 v3 : Int) : Ev (fun k => spec_Around.l0 k [] [v0, v1, v2, v3] 0 w h c) (addIf (freeAt w h c v0) v0 ++ (addIf (freeAt w h c v1) v1 ++ (addIf (freeAt w h c v2) v2 ++ addIf (freeAt w h c v3) v3))) := by
  have round : ∀ (i : Nat) (v : Int) (acc rest : List Int), i < 4 → rd [v0, v1, v2, v3] (i : Int) = v → acc.length ≤ 10 → (∀ acc' : List Int, acc'.length ≤ acc.length + 1 → Ev (fun k => spec_Around.l0 k acc' [v0, v1, v2, v3] ((i + 1 : Nat) : Int) w h c) (acc' ++ rest)) →
      Ev (fun k => spec_Around.l0 k acc [v0, v1, v2, v3] (i : Int) w h c) (acc ++ (addIf (freeAt w h c v) v ++ rest)) := fun i v acc rest hi hv ha hn => by
    have hw : wrap64 ((i : Int) + 1) = ((i + 1 : Nat) : Int) := by rw [w64 (by omega) (by omega)]; omega
    have hl : ([v0, v1, v2, v3] : List Int).length = 4 := rfl
    refine Ev.step (fun k => by rw [spec_Around.l0, if_pos (by omega), if_pos (by omega), if_pos (by rw [hl]; omega), hv, hw]) (Ev.bind (sFreeAt w h c v) ?_)
    cases hq : freeAt w h c v with
    | true =>
      have := hn (acc ++ [v]) (by simp)
      rw [List.append_assoc] at this
      exact Ev.congr (fun k => by rw [if_pos rfl, if_pos (by omega)]) this
    | false => exact Ev.congr (fun k => by rw [if_neg (by simp)]) (hn acc (by omega))
  have h4 : ∀ acc : List Int, Ev (fun k => spec_Around.l0 k acc [v0, v1, v2, v3] ((4 : Nat) : Int) w h c) (acc ++ []) := fun acc => by
    rw [List.append_nil]
    exact Ev.step (f := fun _ => some acc) (fun k => by rw [spec_Around.l0, if_neg (by omega)]) (Ev.now _)
  have := round 0 v0 [] _ (by omega) rfl (by simp) (fun a1 b1 => round 1 v1 a1 _ (by omega) rfl (by simp at b1; omega) (fun a2 b2 => round 2 v2 a2 _ (by omega) rfl (by simp at b1; omega) (fun a3 b3 => round 3 v3 a3 [] (by omega) rfl (by simp at b1; omega) (fun a4 _ => h4 a4))))
  rw [List.append_nil, List.nil_append] at this
  exact this

theorem sAround (w h : Int) (c : ByteArray) (x : Int) : Ev (fun k => spec_Around.f k w h c x) (around w h c x) := by
  unfold around
  refine Ev.congr (fun k => by unfold spec_Around.f; rw [Option.bind_some]) (Ev.bind (sFreeAt w h c x) ?_)
  cases hf : freeAt w h c x with
  | false => exact Ev.of_eq fun k => by rw [if_neg (by simp), if_neg (by simp)]
  | true =>
    rw [if_pos rfl]
    obtain ⟨g, h0, h1, _⟩ := freeAt_iff.mp hf
    obtain ⟨s1, s2, s3, s4, s5⟩ := gridOk_side g
    have hs := gridOk_size g
    obtain ⟨r1, r2, r3, r4⟩ := spot_row s1 s2 s3 s4 s5 h0 h1
    have e := spot_eq (w := w) (x := x)
    have hspot : spotOf w h c x = (x % w, x / w) := by unfold spotOf; rw [if_pos ⟨g, h0, h1⟩]
    have hsp := sSpotOf w h c x
    rw [hspot] at hsp
    refine Ev.congr (fun k => by rw [if_pos rfl]) (Ev.bind hsp ?_)
    have w1 : wrap64 (x / w - 1) = x / w - 1 := w64 (by omega) (by omega)
    have w2 : wrap64 (x % w - 1) = x % w - 1 := w64 (by omega) (by omega)
    have w3 : wrap64 (x % w + 1) = x % w + 1 := w64 (by omega) (by omega)
    have w4 : wrap64 (x / w + 1) = x / w + 1 := w64 (by omega) (by omega)
    dsimp only
    refine Ev.congr (fun k => by rw [w1, w2, w3, w4]) (Ev.bind (sCellAt w h c (x % w) (x / w - 1)) (Ev.bind (sCellAt w h c (x % w - 1) (x / w)) (Ev.bind (sCellAt w h c (x % w + 1) (x / w)) (Ev.bind (sCellAt w h c (x % w) (x / w + 1)) ?_))))
    have m1 : (x / w - 1) * w = (x / w) * w - w := by rw [Int.sub_mul, Int.one_mul]
    have m2 : (x / w + 1) * w = (x / w) * w + w := by rw [Int.add_mul, Int.one_mul]
    have c0 : addIf (freeAt w h c (cellAt w h c (x % w) (x / w - 1))) (cellAt w h c (x % w) (x / w - 1)) = addIf (freeAt w h c (x - w)) (x - w) := by
      unfold cellAt
      by_cases hc : 0 ≤ x / w - 1
      · rw [if_pos ⟨g, r1, r2, hc, by omega⟩, m1, show x / w * w - w + x % w = x - w by omega]
      · rw [if_neg (fun hh => hc hh.2.2.2.1)]
        have hz : x / w = 0 := by omega
        rw [hz, Int.zero_mul] at e
        rw [freeAt_neg, freeAt_low (show x - w < 0 by omega)]
        rfl
    have c1 : addIf (freeAt w h c (cellAt w h c (x % w - 1) (x / w))) (cellAt w h c (x % w - 1) (x / w)) = addIf (decide (0 < x % w) && freeAt w h c (x - 1)) (x - 1) := by
      unfold cellAt
      by_cases hc : 0 < x % w
      · rw [if_pos ⟨g, by omega, by omega, r3, r4⟩, show x / w * w + (x % w - 1) = x - 1 by omega, decide_eq_true hc, Bool.true_and]
      · rw [if_neg (fun hh => hc (by have := hh.2.1; omega)), freeAt_neg, decide_eq_false hc, Bool.false_and]
        rfl
    have c2 : addIf (freeAt w h c (cellAt w h c (x % w + 1) (x / w))) (cellAt w h c (x % w + 1) (x / w)) = addIf (decide (x % w < w - 1) && freeAt w h c (x + 1)) (x + 1) := by
      unfold cellAt
      by_cases hc : x % w < w - 1
      · rw [if_pos ⟨g, by omega, by omega, r3, r4⟩, show x / w * w + (x % w + 1) = x + 1 by omega, decide_eq_true hc, Bool.true_and]
      · rw [if_neg (fun hh => hc (by have := hh.2.2.1; omega)), freeAt_neg, decide_eq_false hc, Bool.false_and]
        rfl
    have c3 : addIf (freeAt w h c (cellAt w h c (x % w) (x / w + 1))) (cellAt w h c (x % w) (x / w + 1)) = addIf (freeAt w h c (x + w)) (x + w) := by
      unfold cellAt
      by_cases hc : x / w + 1 < h
      · rw [if_pos ⟨g, r1, r2, by omega, hc⟩, m2, show x / w * w + w + x % w = x + w by omega]
      · rw [if_neg (fun hh => hc hh.2.2.2.2)]
        have hz : x / w = h - 1 := by omega
        have hm : (h - 1) * w = w * h - w := by rw [Int.sub_mul, Int.one_mul, Int.mul_comm]
        rw [hz, hm] at e
        rw [freeAt_neg, freeAt_high (show (c.size : Int) ≤ x + w by omega)]
        rfl
    have := sAround_l0 w h c (cellAt w h c (x % w) (x / w - 1)) (cellAt w h c (x % w - 1) (x / w)) (cellAt w h c (x % w + 1) (x / w)) (cellAt w h c (x % w) (x / w + 1))
    rw [c0, c1, c2, c3] at this
    exact this

/-! spec.l03Has -/
theorem has_l0 (xs : List Int) (v : Int) (hx : xs.length ≤ 1048576) (d : Nat) : ∀ i : Nat, i + d = xs.length → Ev (fun k => spec_l03Has.l0 k xs v i) ((xs.drop i).contains v) := by
  induction d with
  | zero =>
    intro i h
    have : xs.drop i = [] := List.drop_eq_nil_of_le (by omega)
    rw [this]
    exact Ev.step (f := fun _ => some false) (fun k => by rw [spec_l03Has.l0, if_neg (by omega)]) (Ev.now _)
  | succ d ih =>
    intro i h
    have e : rd xs (i : Int) = xs.getD i 0 := by unfold rd; rw [Int.toNat_natCast]
    have hw : wrap64 ((i : Int) + 1) = ((i + 1 : Nat) : Int) := by rw [w64 (by omega) (by omega)]; omega
    rw [drop_cons xs i 0 (by omega), List.contains_cons]
    by_cases hv : xs.getD i 0 = v
    · rw [beq_iff_eq.mpr hv.symm, Bool.true_or]
      exact Ev.step (f := fun _ => some true) (fun k => by rw [spec_l03Has.l0, if_pos (by omega), if_pos (by omega), e, if_pos hv]) (Ev.now _)
    · rw [beq_eq_false_iff_ne.mpr (fun hh => hv hh.symm), Bool.false_or]
      exact Ev.step (fun k => by rw [spec_l03Has.l0, if_pos (by omega), if_pos (by omega), e, if_neg hv, hw]) (ih (i + 1) (by omega))

theorem has_ev (xs : List Int) (v : Int) (hx : xs.length ≤ 1048576) : Ev (fun k => spec_l03Has.f k xs v) (xs.contains v) := by
  have h0 := has_l0 xs v hx xs.length 0 (Nat.zero_add _)
  rw [List.drop_zero, show ((0 : Nat) : Int) = 0 from rfl] at h0
  exact h0

/-! spec.Beside -/
theorem sBeside (w h : Int) (c : ByteArray) (x y : Int) : Ev (fun k => spec_Beside.f k w h c x y) ((around w h c x).contains y) :=
  Ev.bind (sAround w h c x) (Ev.bind (has_ev _ y (by have := around_len w h c x; omega)) (Ev.now _))

/-! impl.GridOk -/
theorem impl_cells (w h : Int) (c : ByteArray) (hc : c.size ≤ 64) (d : Nat) : ∀ i : Int, 0 ≤ i → i + d = c.size → Ev (fun k => impl_GridOk.l0 k i w h c) (cellsOk c d i) := by
  induction d with
  | zero => intro i h0 h1; exact Ev.step (f := fun _ => some true) (fun k => by rw [impl_GridOk.l0, if_neg (by omega)]) (Ev.now _)
  | succ d ih =>
    intro i h0 h1
    rw [cellsOk]
    have hnext := ih (i + 1) (by omega) (by omega)
    have hw : wrap64 (i + 1) = i + 1 := w64 (by omega) (by omega)
    cases hk : cellOk (bt c i) with
    | true =>
      have hk2 := of_decide_eq_true hk
      refine Ev.step (f := fun k => impl_GridOk.l0 k (i + 1) w h c) (fun k => ?_) hnext
      rw [impl_GridOk.l0, if_pos (by omega), if_pos h0, hw]
      repeat' split
      all_goals first | rfl | omega
    | false =>
      have hk2 := of_decide_eq_false hk
      refine Ev.step (f := fun k => some false) (fun k => ?_) (Ev.now _)
      rw [impl_GridOk.l0, if_pos (by omega), if_pos h0, hw]
      repeat' split
      all_goals first | rfl | omega

theorem iGridOk (w h : Int) (c : ByteArray) : Ev (fun k => impl_GridOk.f k w h c) (gridOk w h c) := by
  have bad : ∀ hn : ¬ sideOk w h c, Ev (fun k => impl_GridOk.j0 k true w h c) (gridOk w h c) := fun hn => by
    have : gridOk w h c = false := by unfold gridOk; rw [decide_eq_false hn]; rfl
    rw [this]
    exact Ev.step (fun k => by rw [impl_GridOk.j0, if_pos rfl]) (Ev.now _)
  by_cases h1 : w < 1
  · exact Ev.congr (fun k => by unfold impl_GridOk.f; rw [if_pos h1]) (bad (fun hs => by have := hs.1; omega))
  by_cases h2 : w > 8
  · exact Ev.congr (fun k => by unfold impl_GridOk.f; rw [if_neg h1, if_pos h2]) (bad (fun hs => by have := hs.2.1; omega))
  by_cases h3 : h < 1
  · exact Ev.congr (fun k => by unfold impl_GridOk.f; rw [if_neg h1, if_neg h2, if_pos h3]) (bad (fun hs => by have := hs.2.2.1; omega))
  by_cases h4 : h > 8
  · exact Ev.congr (fun k => by unfold impl_GridOk.f; rw [if_neg h1, if_neg h2, if_neg h3, if_pos h4]) (bad (fun hs => by have := hs.2.2.2.1; omega))
  have hm := side_mul (w := w) (h := h) (by omega) (by omega) (by omega) (by omega)
  have hw : wrap64 (w * h) = w * h := w64 (by omega) (by omega)
  refine Ev.congr (fun k => by unfold impl_GridOk.f; rw [if_neg h1, if_neg h2, if_neg h3, if_neg h4, hw]) ?_
  by_cases h5 : (c.size : Int) = w * h
  · have : gridOk w h c = cellsOk c c.size 0 := by unfold gridOk; rw [decide_eq_true (show sideOk w h c from ⟨by omega, by omega, by omega, by omega, h5⟩)]; rfl
    rw [this]
    exact Ev.step (fun k => by rw [impl_GridOk.j0, if_neg (by simpa using h5)]) (impl_cells w h c (by omega) c.size 0 (by omega) (by omega))
  · have : ((c.size : Int) != w * h) = true := by simpa using h5
    rw [this]
    exact bad (fun hs => h5 hs.2.2.2.2)

/-! impl.isFree -/
theorem isFree_eq {w h : Int} {c : ByteArray} (g : gridOk w h c = true) (x : Int) : impl_isFree.f w h c x = some (freeAt w h c x) := by
  unfold freeAt impl_isFree.f
  rw [g]
  simp only [Bool.true_and]
  by_cases h0 : x ≥ 0
  · by_cases h1 : x < (c.size : Int)
    · rw [if_pos h0, if_pos h1, if_pos (by omega), decide_eq_true (show 0 ≤ x ∧ x < (c.size : Int) from ⟨h0, h1⟩), Bool.true_and]
      congr 1
      rw [Bool.eq_iff_iff, bne_iff_ne, decide_eq_true_eq]
    · rw [if_pos h0, if_neg h1, decide_eq_false (fun hh : 0 ≤ x ∧ x < (c.size : Int) => h1 hh.2)]
      rfl
  · rw [if_neg h0, decide_eq_false (fun hh : 0 ≤ x ∧ x < (c.size : Int) => h0 hh.1)]
    rfl

/-! impl.around, impl.Around -/
theorem iaround_ev {w h : Int} {c : ByteArray} (g : gridOk w h c = true) {x : Int} (hx0 : -9000000000000000000 ≤ x) (hx1 : x ≤ 9000000000000000000) : Ev (fun k => impl_around.f k w h c x) (around w h c x) := by
  obtain ⟨h1, h2, h3, h4, h5⟩ := gridOk_side g
  have hs := gridOk_size g
  have w1 : wrap64 (x - w) = x - w := w64 (by omega) (by omega)
  have w2 : wrap64 (x - 1) = x - 1 := w64 (by omega) (by omega)
  have w3 : wrap64 (x + 1) = x + 1 := w64 (by omega) (by omega)
  have w4 : wrap64 (x + w) = x + w := w64 (by omega) (by omega)
  have w5 : wrap64 (w - 1) = w - 1 := w64 (by omega) (by omega)
  have hw : ¬ w = 0 := by omega
  unfold around
  cases hf : freeAt w h c x with
  | false => exact Ev.of_eq fun k => by unfold impl_around.f; rw [isFree_eq g, hf, Option.bind_some, if_neg (by simp), if_neg (by simp)]
  | true =>
    rw [if_pos rfl]
    have hx := freeAt_iff.mp hf
    have tm : Int.tmod x w = x % w := Int.tmod_eq_emod_of_nonneg hx.2.1
    have last : ∀ acc : List Int, acc.length ≤ 10 → ∀ b : Bool, Ev (fun k => impl_around.j3 k x acc b w h c) (acc ++ (addIf b (x + 1) ++ addIf (freeAt w h c (x + w)) (x + w))) := fun acc ha b => by
      refine Ev.step (fun k => by rw [impl_around.j3, isFree_eq g, w4, w3]) ?_
      cases b with
      | true =>
        cases hq : freeAt w h c (x + w) with
        | true => exact Ev.of_eq fun k => by rw [if_pos rfl, if_pos (by omega), Option.bind_some, Option.bind_some, if_pos rfl, if_pos (by simp; omega)]; simp [addIf]
        | false => exact Ev.of_eq fun k => by rw [if_pos rfl, if_pos (by omega), Option.bind_some, Option.bind_some, if_neg (by simp)]; simp [addIf]
      | false =>
        cases hq : freeAt w h c (x + w) with
        | true => exact Ev.of_eq fun k => by rw [if_neg (by simp), Option.bind_some, if_pos rfl, if_pos (by omega)]; simp [addIf]
        | false => exact Ev.of_eq fun k => by rw [if_neg (by simp), Option.bind_some, if_neg (by simp)]; simp [addIf]
    have right : ∀ acc : List Int, acc.length ≤ 9 → Ev (fun k => impl_around.j2 k x acc w h c) (acc ++ (addIf (decide (x % w < w - 1) && freeAt w h c (x + 1)) (x + 1) ++ addIf (freeAt w h c (x + w)) (x + w))) := fun acc ha => by
      by_cases hc : x % w < w - 1
      · exact Ev.step (fun k => by rw [impl_around.j2, if_neg hw, tm, w5, if_pos hc, w3, isFree_eq g, Option.bind_some, decide_eq_true hc, Bool.true_and]) (last acc (by omega) _)
      · exact Ev.step (fun k => by rw [impl_around.j2, if_neg hw, tm, w5, if_neg hc, decide_eq_false hc, Bool.false_and]) (last acc (by omega) _)
    have left1 : ∀ acc : List Int, acc.length ≤ 8 → ∀ b : Bool, Ev (fun k => impl_around.j1 k x acc b w h c) (acc ++ (addIf b (x - 1) ++ (addIf (decide (x % w < w - 1) && freeAt w h c (x + 1)) (x + 1) ++ addIf (freeAt w h c (x + w)) (x + w)))) := fun acc ha b => by
      cases b with
      | true =>
        have := right (acc ++ [x - 1]) (by simp; omega)
        rw [List.append_assoc] at this
        exact Ev.step (fun k => by rw [impl_around.j1, if_pos rfl, if_pos (by omega), w2]) this
      | false => exact Ev.step (fun k => by rw [impl_around.j1, if_neg (by simp)]) (right acc (by omega))
    have left : ∀ acc : List Int, acc.length ≤ 8 → Ev (fun k => impl_around.j0 k x acc w h c) (acc ++ (addIf (decide (0 < x % w) && freeAt w h c (x - 1)) (x - 1) ++ (addIf (decide (x % w < w - 1) && freeAt w h c (x + 1)) (x + 1) ++ addIf (freeAt w h c (x + w)) (x + w)))) := fun acc ha => by
      by_cases hc : 0 < x % w
      · exact Ev.step (fun k => by rw [impl_around.j0, if_neg hw, tm, if_pos hc, w2, isFree_eq g, Option.bind_some, decide_eq_true hc, Bool.true_and]) (left1 acc ha _)
      · exact Ev.step (fun k => by rw [impl_around.j0, if_neg hw, tm, if_neg hc, decide_eq_false hc, Bool.false_and]) (left1 acc ha _)
    cases hq : freeAt w h c (x - w) with
    | true =>
      have := left ([] ++ [x - w]) (by simp)
      exact Ev.congr (fun k => by unfold impl_around.f; rw [isFree_eq g, hf, Option.bind_some, if_pos rfl, w1, isFree_eq g, hq, Option.bind_some, if_pos rfl, if_pos (by simp)]) this
    | false =>
      have := left [] (by simp)
      exact Ev.congr (fun k => by unfold impl_around.f; rw [isFree_eq g, hf, Option.bind_some, if_pos rfl, w1, isFree_eq g, hq, Option.bind_some, if_neg (by simp)]) this

/-! impl.Around -/
theorem iaround_any {w h : Int} {c : ByteArray} (g : gridOk w h c = true) (x : Int) (hx0 : -9223372036854775808 ≤ x) (hx1 : x ≤ 9223372036854775807) : Ev (fun k => impl_around.f k w h c x) (around w h c x) := by
  by_cases hb : -9000000000000000000 ≤ x ∧ x ≤ 9000000000000000000
  · exact iaround_ev g hb.1 hb.2
  · have hs := gridOk_size g
    have hf : freeAt w h c x = false := by
      by_cases hn : x < 0
      · exact freeAt_low hn
      · exact freeAt_high (by omega)
    unfold around
    rw [hf, if_neg (by simp)]
    exact Ev.of_eq fun k => by unfold impl_around.f; rw [isFree_eq g, hf, Option.bind_some, if_neg (by simp)]

theorem around_bad {w h : Int} {c : ByteArray} (g : gridOk w h c = false) (x : Int) : around w h c x = [] := by
  unfold around freeAt
  rw [g, Bool.false_and, if_neg (by simp)]

theorem iAround (w h : Int) (c : ByteArray) (x : Int) (hx : (Lit.int .i64 x).wf = true) : Ev (fun k => impl_Around.f k w h c x) (around w h c x) := by
  have hb := wf64 hx
  refine Ev.bind (iGridOk w h c) ?_
  cases g : gridOk w h c with
  | false => rw [around_bad g]; exact Ev.of_eq fun k => by rw [if_neg (by simp)]
  | true => exact Ev.congr (fun k => by rw [if_pos rfl]) (Ev.bind (iaround_any g x hb.1 hb.2) (Ev.now _))

/-! slices.Contains -/
theorem index_l0 (xs : List Int) (v : Int) (hx : xs.length ≤ 1048576) (d : Nat) : ∀ i : Nat, i + d = xs.length → ∃ r, Ev (fun k => slices_Index_int_int.l0 k xs v (xs.length : Int) i) r ∧ decide (r ≥ 0) = (xs.drop i).contains v := by
  induction d with
  | zero =>
    intro i h
    have : xs.drop i = [] := List.drop_eq_nil_of_le (by omega)
    rw [this]
    exact ⟨-1, Ev.step (f := fun _ => some (-1)) (fun k => by rw [slices_Index_int_int.l0, if_neg (by omega)]) (Ev.now _), rfl⟩
  | succ d ih =>
    intro i h
    have e : rd xs (i : Int) = xs.getD i 0 := by unfold rd; rw [Int.toNat_natCast]
    have hw : wrap64 ((i : Int) + 1) = ((i + 1 : Nat) : Int) := by rw [w64 (by omega) (by omega)]; omega
    rw [drop_cons xs i 0 (by omega), List.contains_cons]
    by_cases hv : v = xs.getD i 0
    · rw [beq_iff_eq.mpr hv, Bool.true_or]
      exact ⟨i, Ev.step (f := fun _ => some (i : Int)) (fun k => by rw [slices_Index_int_int.l0, if_pos (by omega), if_pos (by omega), if_pos (by omega), e, if_pos hv]) (Ev.now _), by simp⟩
    · rw [beq_eq_false_iff_ne.mpr hv, Bool.false_or]
      obtain ⟨r, hr, hd⟩ := ih (i + 1) (by omega)
      exact ⟨r, Ev.step (fun k => by rw [slices_Index_int_int.l0, if_pos (by omega), if_pos (by omega), if_pos (by omega), e, if_neg hv, hw]) hr, hd⟩

theorem contains_ev (xs : List Int) (v : Int) (hx : xs.length ≤ 1048576) : Ev (fun k => slices_Contains_int_int.f k xs v) (xs.contains v) := by
  obtain ⟨r, hr, hd⟩ := index_l0 xs v hx xs.length 0 (Nat.zero_add _)
  rw [List.drop_zero] at hd
  rw [show ((0 : Nat) : Int) = 0 from rfl] at hr
  rw [← hd]
  exact Ev.bind hr (Ev.now _)

/-! impl.Beside -/
theorem iBeside (w h : Int) (c : ByteArray) (x y : Int) (hx : (Lit.int .i64 x).wf = true) : Ev (fun k => impl_Beside.f k w h c x y) ((around w h c x).contains y) :=
  Ev.bind (iAround w h c x hx) (Ev.bind (contains_ev _ y (by have := around_len w h c x; omega)) (Ev.now _))

end Go.Proofs.Ytpmieegflolflaa.QFnExactBeside

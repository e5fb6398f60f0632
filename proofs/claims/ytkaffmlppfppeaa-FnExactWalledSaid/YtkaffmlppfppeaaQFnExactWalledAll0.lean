/- What the functions that the law FnExactWalled reaches compute: Conv, WalledL, GridOkS, WalledS, GridOkI, Contains, WalledI, ToIntS, EqIntS. -/
import Derived.Test.YtkaffmlppfppeaaPFnExactWalledx
import Derived.Test.YtkaffmlppfppeaaMBase
import Derived.Test.YtkaffmlppfppeaaMGrid
import Derived.Test.YtkaffmlppfppeaaMLists
namespace Go.Proofs.Ytkaffmlppfppeaa.QFnExactWalled
open Go.RowKit Go.Proofs.Ytkaffmlppfppeaa.PFnExactWalled Go.Proofs.YtkaffmlppfppeaaW.PrintWords Go.Proofs.YtkaffmlppfppeaaW.PrintLast Go.Proofs.YtkaffmlppfppeaaW.PrintMore Go.Proofs.Ytkaffmlppfppeaa.MBase Go.Proofs.Ytkaffmlppfppeaa.MGrid Go.Proofs.Ytkaffmlppfppeaa.MLists
set_option linter.unusedVariables false
set_option linter.unusedSimpArgs false

/-! szGrid and toGrid -/
theorem szGrid_ev (w h : Int) (c : ByteArray) (hc : c.size ≤ 9223372036854775807) :
    (∃ t, laws_szGrid.f w h c 1048576 = some t ∧ t < 0) ∨ (c.size ≤ 1048576 ∧ ∃ t, laws_szGrid.f w h c 1048576 = some t ∧ ¬ t < 0) := by
  unfold laws_szGrid.f
  rw [w64 (by omega) (by omega)]
  by_cases hb : (1048576 - (c.size : Int)) < 0
  · exact .inl ⟨-1, by rw [if_pos hb], by omega⟩
  · exact .inr ⟨by omega, _, by rw [if_neg hb], hb⟩

/-! the cells of a map with the given ones walled -/
def WallIs (c : ByteArray) (p : Int → Bool) (r : List Int) : Prop := r.length = c.size ∧ ∀ j : Nat, j < c.size → r.getD j 0 = if p (j : Int) = true then 35 else (bytesOf c).getD j 0

theorem WallIs.unique {c : ByteArray} {p q : Int → Bool} {r s : List Int} (a : WallIs c p r) (b : WallIs c q s) (h : ∀ j : Nat, j < c.size → p (j : Int) = q (j : Int)) : r = s := by
  refine list_eq (by rw [a.1, b.1]) (fun j hj => ?_)
  have hj1 : j < c.size := by rw [← a.1]; exact hj
  have hj2 : j < s.length := by rw [b.1]; exact hj1
  have e : r.getD j 0 = s.getD j 0 := by rw [a.2 j hj1, b.2 j hj1, h j hj1]
  rw [List.getD_eq_getElem?_getD, List.getD_eq_getElem?_getD, List.getElem?_eq_getElem hj, List.getElem?_eq_getElem hj2] at e
  rw [List.getElem?_eq_getElem hj, List.getElem?_eq_getElem hj2]
  simpa using e

theorem WallIs.set {c : ByteArray} {p q : Int → Bool} {r : List Int} (a : WallIs c p r) {i : Nat} (hi : i < c.size) (h : ∀ j : Nat, j < c.size → q (j : Int) = (decide (j = i) || p (j : Int))) : WallIs c q (r.set i 35) := by
  refine ⟨by rw [List.length_set]; exact a.1, fun j hj => ?_⟩
  rw [getD_set _ _ _ _ _ (by rw [a.1]; exact hi), h j hj, a.2 j hj]
  by_cases e : j = i
  · rw [if_pos e, decide_eq_true e, Bool.true_or, if_pos rfl]
  · rw [if_neg e, decide_eq_false e, Bool.false_or]

theorem WallIs.congr {c : ByteArray} {p q : Int → Bool} {r : List Int} (a : WallIs c p r) (h : ∀ j : Nat, j < c.size → q (j : Int) = p (j : Int)) : WallIs c q r :=
  ⟨a.1, fun j hj => by rw [a.2 j hj, h j hj]⟩

theorem WallIs.start (c : ByteArray) : WallIs c (fun _ => false) (bytesOf c) := ⟨bytesOf_length c, fun j _ => by rw [if_neg (by simp)]⟩

/-! spec.GridOk -/
theorem l02Kind_eq (b : Int) : spec_l02Kind.f b = some (cellOk b) := by
  unfold spec_l02Kind.f cellOk
  repeat' split
  all_goals
    congr 1
    first
    | (rw [decide_eq_decide]; omega)
    | (rw [eq_comm, decide_eq_true_eq]; omega)
    | (rw [eq_comm, decide_eq_false_iff_not]; omega)

theorem spec_cells (w h : Int) (c : ByteArray) (hc : c.size ≤ 64) (d : Nat) : ∀ i : Int, 0 ≤ i → i + d = c.size → Ev (fun k => spec_GridOk.l0 k i w h c) (cellsOk c d i) := by
  induction d with
  | zero => intro i h0 h1; exact Ev.step (f := fun _ => some true) (fun k => by rw [spec_GridOk.l0, if_neg (by omega)]) (Ev.now _)
  | succ d ih =>
    intro i h0 h1
    rw [cellsOk]
    cases hk : cellOk (bt c i) with
    | true => exact Ev.step (fun k => by rw [spec_GridOk.l0, if_pos (by omega), if_pos h0, l02Kind_eq, hk, Option.bind_some, if_pos rfl, w64 (by omega) (by omega)]) (ih (i + 1) (by omega) (by omega))
    | false => exact Ev.step (f := fun _ => some false) (fun k => by rw [spec_GridOk.l0, if_pos (by omega), if_pos h0, l02Kind_eq, hk, Option.bind_some, if_neg (by simp)]) (Ev.now _)

theorem sGridOk (w h : Int) (c : ByteArray) : Ev (fun k => spec_GridOk.f k w h c) (gridOk w h c) := by
  have bad : ∀ hn : ¬ sideOk w h c, Ev (fun k => spec_GridOk.j0 k true w h c) (gridOk w h c) := fun hn => by
    have : gridOk w h c = false := by unfold gridOk; rw [decide_eq_false hn]; rfl
    rw [this]
    exact Ev.step (fun k => by rw [spec_GridOk.j0, if_pos rfl]) (Ev.now _)
  by_cases h1' : ¬ w ≥ 1
  · have h1 := h1'
    exact Ev.congr (fun k => by unfold spec_GridOk.f spec_l01In.f; rw [if_neg h1, Option.bind_some, if_neg (by simp)]) (bad (fun hs => h1 hs.1))
  have h1 := Decidable.not_not.mp h1'
  by_cases h2' : ¬ w ≤ 8
  · have h2 := h2'
    exact Ev.congr (fun k => by unfold spec_GridOk.f spec_l01In.f; rw [if_pos h1, Option.bind_some, if_neg (by simpa using h2)]) (bad (fun hs => h2 hs.2.1))
  have h2 := Decidable.not_not.mp h2'
  by_cases h3' : ¬ h ≥ 1
  · have h3 := h3'
    exact Ev.congr (fun k => by unfold spec_GridOk.f spec_l01In.f; rw [if_pos h1, Option.bind_some, if_pos (by simpa using h2), if_neg h3, Option.bind_some, if_neg (by simp)]) (bad (fun hs => h3 hs.2.2.1))
  have h3 := Decidable.not_not.mp h3'
  by_cases h4' : ¬ h ≤ 8
  · have h4 := h4'
    exact Ev.congr (fun k => by unfold spec_GridOk.f spec_l01In.f; rw [if_pos h1, Option.bind_some, if_pos (by simpa using h2), if_pos h3, Option.bind_some, if_neg (by simpa using h4)]) (bad (fun hs => h4 hs.2.2.2.1))
  have h4 := Decidable.not_not.mp h4'
  have hm := side_mul h1 h2 h3 h4
  have hw : wrap64 (w * h) = w * h := w64 (by omega) (by omega)
  refine Ev.congr (fun k => by unfold spec_GridOk.f spec_l01In.f; rw [if_pos h1, Option.bind_some, if_pos (by simpa using h2), if_pos h3, Option.bind_some, if_pos (by simpa using h4), hw]) ?_
  by_cases h5 : (c.size : Int) = w * h
  · have : gridOk w h c = cellsOk c c.size 0 := by unfold gridOk; rw [decide_eq_true (show sideOk w h c from ⟨h1, h2, h3, h4, h5⟩)]; rfl
    rw [this]
    exact Ev.step (fun k => by rw [spec_GridOk.j0, if_neg (by simpa using h5)]) (spec_cells w h c (by omega) c.size 0 (by omega) (by omega))
  · have : ((c.size : Int) != w * h) = true := by simpa using h5
    rw [this]
    exact bad (fun hs => h5 hs.2.2.2.2)

/-! spec.Walled -/
theorem take_has (xs : List Int) (i : Nat) (hi : i < xs.length) (v : Int) : (xs.take (i + 1)).contains v = (decide (v = xs.getD i 0) || (xs.take i).contains v) := by
  rw [List.take_succ_eq_append_getElem hi, List.contains_append, List.contains_cons, List.contains_nil, Bool.or_false, List.getD_eq_getElem?_getD, List.getElem?_eq_getElem hi, Bool.or_comm]
  rfl

theorem sWalled_l0 {c : ByteArray} (hc : c.size ≤ 64) (w h : Int) (xs : List Int) (hx : xs.length ≤ 1048576) (d : Nat) : ∀ (i : Nat) (r : List Int), i + d = xs.length → WallIs c (fun v => (xs.take i).contains v) r →
    ∃ s, Ev (fun k => spec_Walled.l0 k xs r i w h c) (w, h, strOfNums s) ∧ WallIs c (fun v => xs.contains v) s := by
  induction d with
  | zero =>
    intro i r hi hr
    rw [List.take_of_length_le (by omega)] at hr
    exact ⟨r, Ev.step (f := fun _ => some _) (fun k => by rw [spec_Walled.l0, if_neg (by omega)]) (Ev.now _), hr⟩
  | succ d ih =>
    intro i r hi hr
    have hil : i < xs.length := by omega
    have hw : wrap64 ((i : Int) + 1) = ((i + 1 : Nat) : Int) := by rw [w64 (by omega) (by omega)]; omega
    have e : rd xs (i : Int) = xs.getD i 0 := by unfold rd; rw [Int.toNat_natCast]
    have hlen := hr.1
    have l1 : (i : Int) < (xs.length : Int) := by omega
    have l2 : (0 : Int) ≤ (i : Int) := by omega
    have out : ¬ (0 ≤ xs.getD i 0 ∧ xs.getD i 0 < (c.size : Int)) → WallIs c (fun v => (xs.take (i + 1)).contains v) r := fun hn => hr.congr (fun j hj => by
      show (xs.take (i + 1)).contains (j : Int) = (xs.take i).contains (j : Int)
      rw [take_has xs i hil, decide_eq_false (by omega), Bool.false_or])
    generalize xs.getD i 0 = V at e out
    by_cases c1 : V ≥ 0
    · by_cases c2 : V < (r.length : Int)
      · have hj : V.toNat < c.size := by omega
        have hV : ((V.toNat : Nat) : Int) = V := by omega
        obtain ⟨s, q1, q2⟩ := ih (i + 1) (r.set V.toNat 35) (by omega) (hr.set hj (fun j hj => by
          show (xs.take (i + 1)).contains (j : Int) = _
          have e2 : xs.getD i 0 = V := by rw [← e]; unfold rd; rw [Int.toNat_natCast]
          rw [take_has xs i hil, e2]
          by_cases h3 : j = V.toNat
          · rw [decide_eq_true h3, decide_eq_true (show (j : Int) = V by omega)]
          · rw [decide_eq_false h3, decide_eq_false (show ¬ (j : Int) = V by omega)]))
        exact ⟨s, Ev.step (fun k => by rw [spec_Walled.l0, if_pos l1, if_pos l2, e, if_pos c1, if_pos c2, if_pos c1, hw]) q1, q2⟩
      · obtain ⟨s, q1, q2⟩ := ih (i + 1) r (by omega) (out (by omega))
        exact ⟨s, Ev.step (fun k => by rw [spec_Walled.l0, if_pos l1, if_pos l2, e, if_pos c1, if_neg c2, hw]) q1, q2⟩
    · obtain ⟨s, q1, q2⟩ := ih (i + 1) r (by omega) (out (by omega))
      exact ⟨s, Ev.step (fun k => by rw [spec_Walled.l0, if_pos l1, if_pos l2, e, if_neg c1, hw]) q1, q2⟩

theorem sWalled (w h : Int) (c : ByteArray) (xs : List Int) (hx : xs.length ≤ 1048576) : (gridOk w h c = false ∧ Ev (fun k => spec_Walled.f k w h c xs) (w, h, c)) ∨ (gridOk w h c = true ∧ ∃ s, Ev (fun k => spec_Walled.f k w h c xs) (w, h, strOfNums s) ∧ WallIs c (fun v => xs.contains v) s) := by
  have hg := sGridOk w h c
  cases g : gridOk w h c with
  | false =>
    rw [g] at hg
    exact .inl ⟨rfl, Ev.bind hg (Ev.of_eq fun k => by rw [if_neg (by simp)])⟩
  | true =>
    rw [g] at hg
    have hc := gridOk_size g
    obtain ⟨s, q1, q2⟩ := sWalled_l0 hc.2 w h xs hx xs.length 0 (bytesOf c) (Nat.zero_add _) (by simpa using WallIs.start c)
    rw [show ((0 : Nat) : Int) = 0 from rfl] at q1
    exact .inr ⟨rfl, s, Ev.bind hg (Ev.congr (fun k => by rw [if_pos rfl, if_pos (by omega), if_pos (by omega)]) q1), q2⟩

/-! impl.GridOk -/
theorem impl_cells (w h : Int) (c : ByteArray) (hc : c.size ≤ 64) (d : Nat) : ∀ i : Int, 0 ≤ i → i + d = c.size → Ev (fun k => impl_GridOk.l0 k i w h c) (cellsOk c d i) := by
  induction d with
  | zero => intro i h0 h1; exact Ev.step (f := fun _ => some true) (fun k => by rw [impl_GridOk.l0, if_neg (by omega)]) (Ev.now _)
  | succ d ih =>
    intro i h0 h1
    rw [cellsOk]
    have hnext := ih (i + 1) (by omega) (by omega)
    have hw : wrap64 (i + 1) = i + 1 := w64 (by omega) (by omega)
    cases hk : cellOk (bt c i) with
    | true =>
      have hk2 := of_decide_eq_true hk
      refine Ev.step (f := fun k => impl_GridOk.l0 k (i + 1) w h c) (fun k => ?_) hnext
      rw [impl_GridOk.l0, if_pos (by omega), if_pos h0, hw]
      repeat' split
      all_goals first | rfl | omega
    | false =>
      have hk2 := of_decide_eq_false hk
      refine Ev.step (f := fun k => some false) (fun k => ?_) (Ev.now _)
      rw [impl_GridOk.l0, if_pos (by omega), if_pos h0, hw]
      repeat' split
      all_goals first | rfl | omega

theorem iGridOk (w h : Int) (c : ByteArray) : Ev (fun k => impl_GridOk.f k w h c) (gridOk w h c) := by
  have bad : ∀ hn : ¬ sideOk w h c, Ev (fun k => impl_GridOk.j0 k true w h c) (gridOk w h c) := fun hn => by
    have : gridOk w h c = false := by unfold gridOk; rw [decide_eq_false hn]; rfl
    rw [this]
    exact Ev.step (fun k => by rw [impl_GridOk.j0, if_pos rfl]) (Ev.now _)
  by_cases h1 : w < 1
  · exact Ev.congr (fun k => by unfold impl_GridOk.f; rw [if_pos h1]) (bad (fun hs => by have := hs.1; omega))
  by_cases h2 : w > 8
  · exact Ev.congr (fun k => by unfold impl_GridOk.f; rw [if_neg h1, if_pos h2]) (bad (fun hs => by have := hs.2.1; omega))
  by_cases h3 : h < 1
  · exact Ev.congr (fun k => by unfold impl_GridOk.f; rw [if_neg h1, if_neg h2, if_pos h3]) (bad (fun hs => by have := hs.2.2.1; omega))
  by_cases h4 : h > 8
  · exact Ev.congr (fun k => by unfold impl_GridOk.f; rw [if_neg h1, if_neg h2, if_neg h3, if_pos h4]) (bad (fun hs => by have := hs.2.2.2.1; omega))
  have hm := side_mul (w := w) (h := h) (by omega) (by omega) (by omega) (by omega)
  have hw : wrap64 (w * h) = w * h := w64 (by omega) (by omega)
  refine Ev.congr (fun k => by unfold impl_GridOk.f; rw [if_neg h1, if_neg h2, if_neg h3, if_neg h4, hw]) ?_
  by_cases h5 : (c.size : Int) = w * h
  · have : gridOk w h c = cellsOk c c.size 0 := by unfold gridOk; rw [decide_eq_true (show sideOk w h c from ⟨by omega, by omega, by omega, by omega, h5⟩)]; rfl
    rw [this]
    exact Ev.step (fun k => by rw [impl_GridOk.j0, if_neg (by simpa using h5)]) (impl_cells w h c (by omega) c.size 0 (by omega) (by omega))
  · have : ((c.size : Int) != w * h) = true := by simpa using h5
    rw [this]
    exact bad (fun hs => h5 hs.2.2.2.2)

/-! slices.Contains -/
theorem index_l0 (xs : List Int) (v : Int) (hx : xs.length ≤ 1048576) (d : Nat) : ∀ i : Nat, i + d = xs.length → ∃ r, Ev (fun k => slices_Index_int_int.l0 k xs v (xs.length : Int) i) r ∧ decide (r ≥ 0) = (xs.drop i).contains v := by
  induction d with
  | zero =>
    intro i h
    have : xs.drop i = [] := List.drop_eq_nil_of_le (by omega)
    rw [this]
    exact ⟨-1, Ev.step (f := fun _ => some (-1)) (fun k => by rw [slices_Index_int_int.l0, if_neg (by omega)]) (Ev.now _), rfl⟩
  | succ d ih =>
    intro i h
    have e : rd xs (i : Int) = xs.getD i 0 := by unfold rd; rw [Int.toNat_natCast]
    have hw : wrap64 ((i : Int) + 1) = ((i + 1 : Nat) : Int) := by rw [w64 (by omega) (by omega)]; omega
    rw [drop_cons xs i 0 (by omega), List.contains_cons]
    by_cases hv : v = xs.getD i 0
    · rw [beq_iff_eq.mpr hv, Bool.true_or]
      exact ⟨i, Ev.step (f := fun _ => some (i : Int)) (fun k => by rw [slices_Index_int_int.l0, if_pos (by omega), if_pos (by omega), if_pos (by omega), e, if_pos hv]) (Ev.now _), by simp⟩
    · rw [beq_eq_false_iff_ne.mpr hv, Bool.false_or]
      obtain ⟨r, hr, hd⟩ := ih (i + 1) (by omega)
      exact ⟨r, Ev.step (fun k => by rw [slices_Index_int_int.l0, if_pos (by omega), if_pos (by omega), if_pos (by omega), e, if_neg hv, hw]) hr, hd⟩

theorem contains_ev (xs : List Int) (v : Int) (hx : xs.length ≤ 1048576) : Ev (fun k => slices_Contains_int_int.f k xs v) (xs.contains v) := by
  obtain ⟨r, hr, hd⟩ := index_l0 xs v hx xs.length 0 (Nat.zero_add _)
  rw [List.drop_zero] at hd
  rw [show ((0 : Nat) : Int) = 0 from rfl] at hr
  rw [← hd]
  exact Ev.bind hr (Ev.now _)

/-! impl.Walled -/
theorem iWalled_l0 {c : ByteArray} (hc : c.size ≤ 64) (w h : Int) (xs : List Int) (hx : xs.length ≤ 1048576) (d : Nat) : ∀ (i : Nat) (r : List Int), i + d = c.size → WallIs c (fun v => decide (v < (i : Int)) && xs.contains v) r →
    ∃ s, Ev (fun k => impl_Walled.l0 k xs r (c.size : Int) i w h c) (w, h, strOfNums s) ∧ WallIs c (fun v => xs.contains v) s := by
  induction d with
  | zero =>
    intro i r hi hr
    exact ⟨r, Ev.step (f := fun _ => some _) (fun k => by rw [impl_Walled.l0, if_neg (by omega)]) (Ev.now _), hr.congr (fun j hj => by
      show _ = (decide ((j : Int) < (i : Int)) && _)
      rw [decide_eq_true (by omega), Bool.true_and])⟩
  | succ d ih =>
    intro i r hi hr
    have hic : i < c.size := by omega
    have hw : wrap64 ((i : Int) + 1) = ((i + 1 : Nat) : Int) := by rw [w64 (by omega) (by omega)]; omega
    have hlen := hr.1
    have l1 : (i : Int) < (c.size : Int) := by omega
    have l2 : (0 : Int) ≤ (i : Int) := by omega
    have l3 : (i : Int) < (r.length : Int) := by omega
    have hcon := contains_ev xs (i : Int) hx
    cases hb : xs.contains (i : Int) with
    | true =>
      rw [hb] at hcon
      obtain ⟨s, q1, q2⟩ := ih (i + 1) (r.set i 35) (by omega) (hr.set hic (fun j hj => by
        show (decide ((j : Int) < ((i + 1 : Nat) : Int)) && _) = _
        by_cases h3 : j = i
        · subst h3; rw [decide_eq_true (by omega), hb, decide_eq_true rfl]; rfl
        · rw [decide_eq_false h3, Bool.false_or]
          by_cases h4 : (j : Int) < (i : Int)
          · rw [decide_eq_true h4, decide_eq_true (by omega)]
          · rw [decide_eq_false h4, decide_eq_false (by omega)]))
      exact ⟨s, Ev.step (fun k => by rw [impl_Walled.l0, if_pos l1]) (Ev.bind hcon (Ev.congr (fun k => by rw [if_pos rfl, if_pos l2, if_pos l3, hw, Int.toNat_natCast]) q1)), q2⟩
    | false =>
      rw [hb] at hcon
      obtain ⟨s, q1, q2⟩ := ih (i + 1) r (by omega) (hr.congr (fun j hj => by
        show (decide ((j : Int) < ((i + 1 : Nat) : Int)) && _) = (decide ((j : Int) < (i : Int)) && _)
        by_cases h3 : j = i
        · subst h3; rw [hb, Bool.and_false, Bool.and_false]
        · by_cases h4 : (j : Int) < (i : Int)
          · rw [decide_eq_true h4, decide_eq_true (by omega)]
          · rw [decide_eq_false h4, decide_eq_false (by omega)]))
      exact ⟨s, Ev.step (fun k => by rw [impl_Walled.l0, if_pos l1]) (Ev.bind hcon (Ev.congr (fun k => by rw [if_neg (by simp), hw]) q1)), q2⟩

theorem iWalled (w h : Int) (c : ByteArray) (xs : List Int) (hx : xs.length ≤ 1048576) : (gridOk w h c = false ∧ Ev (fun k => impl_Walled.f k w h c xs) (w, h, c)) ∨ (gridOk w h c = true ∧ ∃ s, Ev (fun k => impl_Walled.f k w h c xs) (w, h, strOfNums s) ∧ WallIs c (fun v => xs.contains v) s) := by
  have hg := iGridOk w h c
  cases g : gridOk w h c with
  | false =>
    rw [g] at hg
    exact .inl ⟨rfl, Ev.bind hg (Ev.of_eq fun k => by rw [if_neg (by simp)])⟩
  | true =>
    rw [g] at hg
    have hc := gridOk_size g
    obtain ⟨s, q1, q2⟩ := iWalled_l0 hc.2 w h xs hx c.size 0 (bytesOf c) (Nat.zero_add _) ((WallIs.start c).congr (fun j hj => by
      show (decide ((j : Int) < ((0 : Nat) : Int)) && _) = false
      rw [decide_eq_false (by omega), Bool.false_and]))
    rw [show ((0 : Nat) : Int) = 0 from rfl] at q1
    exact .inr ⟨rfl, s, Ev.bind hg (Ev.congr (fun k => by rw [if_pos rfl, if_pos (by omega), if_pos (by omega), Option.bind_some, bytesOf_length]) q1), q2⟩

/-! toIntS: a list is copied -/
theorem toIntS_l0 (xs : List Int) (hx : xs.length ≤ 1048576) (d : Nat) : ∀ (ys : List Int) (i : Int), 0 ≤ i → i + d = xs.length → Copied id xs ys i → Ev (fun k => laws_toIntS.l0 k xs ys i) xs := by
  induction d with
  | zero =>
    intro ys i h0 h1 hc
    have he := hc.end_ (by omega)
    rw [List.map_id] at he
    rw [← he]
    exact Ev.step (f := fun _ => some ys) (fun k => by rw [laws_toIntS.l0, if_neg (by rw [he]; omega)]) (Ev.now _)
  | succ d ih =>
    intro ys i h0 h1 hc
    have hl := hc.1
    refine Ev.step (fun k => by rw [laws_toIntS.l0, if_pos (by omega), if_pos h0, if_pos (by omega), w64 (by omega) (by omega)]; rfl) (ih _ (i + 1) (by omega) (by omega) (hc.step h0 (by omega) 0 rfl))

theorem toIntS_ev (l : List Int) (hl : l.length ≤ 1048576) : Ev (fun k => laws_toIntS.f k l) l := by
  refine Ev.congr (fun k => by unfold laws_toIntS.f; rw [if_pos (by omega), if_pos (by omega)]) ?_
  exact toIntS_l0 l hl l.length _ 0 (by omega) (by omega) (by rw [Int.toNat_natCast]; exact Copied.start id l 0)

/-! eqIntS: a list equals itself -/
theorem eqIntS_l0 (xs : List Int) (hx : xs.length < 1099511627776) (d : Nat) : ∀ i : Int, 0 ≤ i → i + d = xs.length → Ev (fun k => laws_eqIntS.l0 k xs xs i) true := by
  induction d with
  | zero => intro i h0 h; exact Ev.step (fun k => by rw [laws_eqIntS.l0, if_neg (by omega)]) (Ev.now _)
  | succ d ih =>
    intro i h0 h
    refine Ev.step (fun k => by rw [laws_eqIntS.l0, if_pos (by omega), if_pos h0, if_pos (by omega), if_pos rfl, w64 (by omega) (by omega)]) (ih (i + 1) (by omega) (by omega))

theorem eqIntS_same (xs : List Int) (hx : xs.length < 1099511627776) : Ev (fun k => laws_eqIntS.f k xs xs) true := by
  refine Ev.congr (fun k => by unfold laws_eqIntS.f; rw [if_pos rfl]) ?_
  exact eqIntS_l0 xs hx xs.length 0 (by omega) (by omega)

end Go.Proofs.Ytkaffmlppfppeaa.QFnExactWalled

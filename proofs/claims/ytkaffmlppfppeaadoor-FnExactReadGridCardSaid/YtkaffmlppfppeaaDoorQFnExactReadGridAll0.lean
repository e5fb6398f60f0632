/- What the functions that the law FnExactReadGrid reaches compute: TextL, SplitL, GridOkI, TextI, ReadI, GridOkS, TextS, ReadS. -/
import Derived.Test.YtkaffmlppfppeaaDoorPFnExactReadGridx
import Derived.Test.YtkaffmlppfppeaaDoorMBase
import Derived.Test.YtkaffmlppfppeaaDoorMGrid
import Derived.Test.YtkaffmlppfppeaaDoorMLists
namespace Go.Proofs.YtkaffmlppfppeaaDoor.QFnExactReadGrid
open Go.RowKit Go.Proofs.YtkaffmlppfppeaaDoor.PFnExactReadGrid Go.Proofs.YtkaffmlppfppeaaDoorW.PrintWords Go.Proofs.YtkaffmlppfppeaaDoorW.PrintLast Go.Proofs.YtkaffmlppfppeaaDoorW.PrintMore Go.Proofs.YtkaffmlppfppeaaDoor.MBase Go.Proofs.YtkaffmlppfppeaaDoor.MGrid Go.Proofs.YtkaffmlppfppeaaDoor.MLists
set_option linter.unusedVariables false
set_option linter.unusedSimpArgs false

/-! the text of a map -/
def dec (n : Int) : ByteArray := ⟨(Lib.itoa n).toArray⟩
theorem dec_one {n : Int} (h0 : 1 ≤ n) (h1 : n ≤ 8) : dec n = ⟨#[UInt8.ofNat (48 + n.toNat)]⟩ := by
  obtain ⟨u, rfl⟩ : ∃ u : Nat, n = u := ⟨n.toNat, by omega⟩
  unfold dec
  rw [Go.Proofs.YtkaffmlppfppeaaDoor.MReadDecimal.itoa_nat, Lib.decDigits, dif_pos (by omega), Int.toNat_natCast]
theorem dec_size {n : Int} (h0 : 1 ≤ n) (h1 : n ≤ 8) : (dec n).size = 1 := by rw [dec_one h0 h1]; rfl
theorem dec_ev {n : Int} (h0 : 1 ≤ n) (h1 : n ≤ 8) : Ev (fun k => Go.Proofs.YtkaffmlppfppeaaDoor.DSpec.spec_Decimal.f k n) (dec n) := ⟨41, fun k hk => Go.Proofs.YtkaffmlppfppeaaDoor.MReadDecimal.decimal_k n (by omega) (by omega) k hk⟩

def headT (a b : ByteArray) : ByteArray := ((((⟨#[104, 101, 105, 103, 104, 116, 32]⟩ : ByteArray) ++ a) ++ (⟨#[10, 119, 105, 100, 116, 104, 32]⟩ : ByteArray)) ++ b) ++ (⟨#[10, 109, 97, 112, 10]⟩ : ByteArray)
def rowT (c : ByteArray) (w y : Int) : ByteArray := c.extract (y * w).toNat (y * w + w).toNat ++ (⟨#[10]⟩ : ByteArray)
def rowsT (c : ByteArray) (w : Int) : Nat → Int → ByteArray
  | 0, _ => ⟨#[]⟩
  | d + 1, y => rowT c w y ++ rowsT c w d (y + 1)
def gridT (w h : Int) (c : ByteArray) : ByteArray := headT (dec h) (dec w) ++ rowsT c w h.toNat 0

theorem size1 : (⟨#[10]⟩ : ByteArray).size = 1 := rfl
theorem size5 : (⟨#[10, 109, 97, 112, 10]⟩ : ByteArray).size = 5 := rfl
theorem size7a : (⟨#[104, 101, 105, 103, 104, 116, 32]⟩ : ByteArray).size = 7 := rfl
theorem size7b : (⟨#[10, 119, 105, 100, 116, 104, 32]⟩ : ByteArray).size = 7 := rfl
theorem head_size (a b : ByteArray) : (headT a b).size = 19 + a.size + b.size := by
  unfold headT
  rw [ByteArray.size_append, ByteArray.size_append, ByteArray.size_append, ByteArray.size_append, size5, size7a, size7b]
  omega
theorem row_size (c : ByteArray) {w y : Int} (hw : 1 ≤ w) (h8 : w ≤ 8) (h0 : 0 ≤ y * w) : (rowT c w y).size ≤ 9 := by
  unfold rowT
  rw [ByteArray.size_append, ByteArray.size_extract, size1]
  omega

/-- where the row y lies in a right map -/
theorem row_in {w h : Int} {c : ByteArray} (g : gridOk w h c = true) {y : Int} (y0 : 0 ≤ y) (yh : y < h) : 0 ≤ y * w ∧ y * w + w ≤ c.size ∧ y * w ≤ 64 ∧ 1 ≤ w ∧ w ≤ 8 ∧ h ≤ 8 := by
  obtain ⟨h1, h2, h3, h4, h5⟩ := gridOk_side g
  have a : 0 ≤ y * w := Int.mul_nonneg y0 (by omega)
  have b : (y + 1) * w ≤ h * w := Int.mul_le_mul_of_nonneg_right (by omega) (by omega)
  have e : (y + 1) * w = y * w + w := by rw [Int.add_mul, Int.one_mul]
  have e2 : h * w = w * h := Int.mul_comm h w
  have sz := (gridOk_size g).2
  omega

/-! a map's text cut at its ends of line -/
def nl : ByteArray := ⟨#[10]⟩
def NoNl (a : ByteArray) : Prop := ∀ b ∈ a.data.toList, b ≠ 10

theorem index_at (a r : List UInt8) (h : ∀ b ∈ a, b ≠ 10) : Lib.index (a ++ 10 :: r) [10] = a.length := by
  induction a with
  | nil => rfl
  | cons b l ih =>
    have hb : ¬ (List.isPrefixOf [10] (b :: (l ++ 10 :: r)) = true) := fun hh => by
      simp [List.isPrefixOf] at hh
      exact h b (List.mem_cons_self ..) hh.symm
    have ih' := ih (fun x hx => h x (List.mem_cons_of_mem _ hx))
    show Lib.index (b :: (l ++ 10 :: r)) [10] = _
    rw [Lib.index, if_neg hb, ih', if_neg (by rw [beq_iff_eq]; omega), List.length_cons]
    omega

theorem index_no (a : List UInt8) (h : ∀ b ∈ a, b ≠ 10) : Lib.index a [10] = -1 := by
  induction a with
  | nil => rfl
  | cons b l ih =>
    have hb : ¬ (List.isPrefixOf [10] (b :: l) = true) := fun hh => by
      simp [List.isPrefixOf] at hh
      exact h b (List.mem_cons_self ..) hh.symm
    rw [Lib.index, if_neg hb, ih (fun x hx => h x (List.mem_cons_of_mem _ hx)), if_pos (by rfl)]

theorem sz_toList (s : ByteArray) : s.data.toList.length = s.size := Array.length_toList

theorem split_cons {A : ByteArray} (R : ByteArray) (hA : NoNl A) : Lib.countB (A ++ (nl ++ R)) nl = 1 + Lib.countB R nl ∧ Lib.splitB nl 0 (Lib.countB (A ++ (nl ++ R)) nl) (A ++ (nl ++ R)) = A :: Lib.splitB nl 0 (Lib.countB R nl) R := by
  have hd : (A ++ (nl ++ R)).data.toList = A.data.toList ++ 10 :: R.data.toList := by
    rw [ByteArray.data_append, ByteArray.data_append, Array.toList_append, Array.toList_append]
    rfl
  have hi : Lib.indexB (A ++ (nl ++ R)) nl = (A.size : Int) := by
    show Lib.index (A ++ (nl ++ R)).data.toList [10] = _
    rw [hd, index_at _ _ hA, sz_toList]
  have e1 : nl.size = 1 := rfl
  have hext : (A ++ (nl ++ R)).extract (A.size + nl.size) (A ++ (nl ++ R)).size = R := by
    rw [← ByteArray.append_assoc]
    exact ByteArray.extract_append_eq_right (by rw [ByteArray.size_append]) (by rw [ByteArray.size_append])
  have hc := Lib.countB_hit (A ++ (nl ++ R)) nl A.size (by omega) hi
  rw [hext] at hc
  refine ⟨hc, ?_⟩
  rw [hc, Nat.add_comm, Lib.splitB_hit nl 0 _ _ A.size hi, hext, Nat.add_zero, ByteArray.extract_append_eq_left rfl]

theorem split_end {R : ByteArray} (hR : NoNl R) : Lib.splitB nl 0 (Lib.countB R nl) R = [R] :=
  Lib.splitB_miss nl 0 _ R (by show Lib.index R.data.toList [10] = _; exact index_no _ hR)

/-! the rows -/
def cellsL (c : ByteArray) (w : Int) : Nat → Int → List ByteArray
  | 0, _ => [⟨#[]⟩]
  | d + 1, y => c.extract (y * w).toNat (y * w + w).toNat :: cellsL c w d (y + 1)

theorem cells_nonl {w h : Int} {c : ByteArray} (g : gridOk w h c = true) (i j : Nat) : NoNl (c.extract i j) := by
  intro b hb
  have hm : b ∈ c.data.toList := by
    rw [ByteArray.data_extract, Array.toList_extract] at hb
    exact List.mem_of_mem_drop (List.mem_of_mem_take hb)
  obtain ⟨k, hk, e⟩ := List.getElem_of_mem hm
  rw [sz_toList] at hk
  have hc := gridOk_cell g (i := (k : Int)) (by omega) (by omega)
  have hbt : bt c (k : Int) = (b.toNat : Int) := by
    unfold bt
    rw [dif_pos (by rw [Int.toNat_natCast]; exact hk)]
    have : c[(k : Int).toNat]'(by rw [Int.toNat_natCast]; exact hk) = b := by
      simp only [Int.toNat_natCast]
      rw [← e]
      rfl
    rw [this]
  rw [hbt] at hc
  intro hh
  subst hh
  revert hc
  decide

theorem rows_split {w h : Int} {c : ByteArray} (g : gridOk w h c = true) (d : Nat) : ∀ y : Int, Lib.splitB nl 0 (Lib.countB (rowsT c w d y) nl) (rowsT c w d y) = cellsL c w d y := by
  induction d with
  | zero => intro y; exact split_end (fun b hb => by cases hb)
  | succ d ih =>
    intro y
    have e : rowsT c w (d + 1) y = c.extract (y * w).toNat (y * w + w).toNat ++ (nl ++ rowsT c w d (y + 1)) := by
      show (c.extract (y * w).toNat (y * w + w).toNat ++ (⟨#[10]⟩ : ByteArray)) ++ rowsT c w d (y + 1) = _
      rw [ByteArray.append_assoc]
      rfl
    rw [e, (split_cons _ (cells_nonl g _ _)).2, ih]
    rfl

def lineH (h : Int) : ByteArray := (⟨#[104, 101, 105, 103, 104, 116, 32]⟩ : ByteArray) ++ dec h
def lineW (w : Int) : ByteArray := (⟨#[119, 105, 100, 116, 104, 32]⟩ : ByteArray) ++ dec w
def lineM : ByteArray := ⟨#[109, 97, 112]⟩

theorem dec_nonl {n : Int} (h0 : 1 ≤ n) (h1 : n ≤ 8) {p : ByteArray} (hp : NoNl p) : NoNl (p ++ dec n) := by
  intro b hb
  rw [ByteArray.data_append, Array.toList_append, List.mem_append] at hb
  rcases hb with hb | hb
  · exact hp b hb
  · rw [dec_one h0 h1] at hb
    have : b = UInt8.ofNat (48 + n.toNat) := by simpa using hb
    rw [this]
    obtain rfl | rfl | rfl | rfl | rfl | rfl | rfl | rfl : n = 1 ∨ n = 2 ∨ n = 3 ∨ n = 4 ∨ n = 5 ∨ n = 6 ∨ n = 7 ∨ n = 8 := by omega
    all_goals decide

theorem grid_lines (w h : Int) (c : ByteArray) : gridT w h c = lineH h ++ (nl ++ (lineW w ++ (nl ++ (lineM ++ (nl ++ rowsT c w h.toNat 0))))) := by
  have e1 : (⟨#[10, 119, 105, 100, 116, 104, 32]⟩ : ByteArray) = nl ++ (⟨#[119, 105, 100, 116, 104, 32]⟩ : ByteArray) := rfl
  have e2 : (⟨#[10, 109, 97, 112, 10]⟩ : ByteArray) = nl ++ (lineM ++ nl) := rfl
  unfold gridT headT lineH lineW
  rw [e1, e2]
  simp only [ByteArray.append_assoc]

theorem grid_split {w h : Int} {c : ByteArray} (g : gridOk w h c = true) : Lib.splitB nl 0 (Lib.countB (gridT w h c) nl) (gridT w h c) = lineH h :: lineW w :: lineM :: cellsL c w h.toNat 0 := by
  obtain ⟨h1, h2, h3, h4, h5⟩ := gridOk_side g
  have n1 : NoNl (lineH h) := dec_nonl h3 h4 (fun b hb => by revert b; decide)
  have n2 : NoNl (lineW w) := dec_nonl h1 h2 (fun b hb => by revert b; decide)
  have n3 : NoNl lineM := fun b hb => by revert b; decide
  rw [grid_lines, (split_cons _ n1).2, (split_cons _ n2).2, (split_cons _ n3).2, rows_split g]

/-! the pieces' sizes -/
def tot : List ByteArray → Nat
  | [] => 0
  | x :: l => x.size + tot l
theorem tot_split (sep : ByteArray) (k : Nat) : ∀ s : ByteArray, tot (Lib.splitB sep 0 k s) ≤ s.size := by
  induction k with
  | zero => intro s; show s.size + 0 ≤ _; omega
  | succ k ih =>
    intro s
    unfold Lib.splitB
    split
    · show s.size + 0 ≤ _; omega
    · have := ih (s.extract ((Lib.indexB s sep).toNat + sep.size) s.size)
      show (s.extract 0 _).size + tot _ ≤ _
      rw [ByteArray.size_extract] at this ⊢
      omega
theorem tot_drop (l : List ByteArray) : ∀ n : Nat, tot (l.drop n) ≤ tot l := by
  induction l with
  | nil => intro n; rw [List.drop_nil]; exact Nat.le_refl _
  | cons x l ih =>
    intro n
    cases n with
    | zero => exact Nat.le_refl _
    | succ n => have := ih n; show tot (l.drop n) ≤ x.size + tot l; omega
theorem tot_get (l : List ByteArray) : ∀ n : Nat, (l.getD n ByteArray.empty).size ≤ tot l := by
  induction l with
  | nil => intro n; rw [List.getD_eq_getElem?_getD, List.getElem?_nil]; exact Nat.le_refl _
  | cons x l ih =>
    intro n
    cases n with
    | zero => show x.size ≤ x.size + tot l; omega
    | succ n => have := ih n; rw [List.getD_cons_succ]; show _ ≤ x.size + tot l; omega

theorem join_flat (l : List (List UInt8)) : Lib.join l [] = l.flatten := by
  unfold Lib.join
  induction l with
  | nil => rfl
  | cons x l ih =>
    cases l with
    | nil => simp [List.intercalate]
    | cons y l => rw [List.intercalate_cons_cons, ih]; simp
theorem joined_cons (x : ByteArray) (l : List ByteArray) : Go.Proofs.YtkaffmlppfppeaaDoor.MStr.joined (x :: l) (⟨#[]⟩ : ByteArray) = x.data.toList ++ Go.Proofs.YtkaffmlppfppeaaDoor.MStr.joined l (⟨#[]⟩ : ByteArray) := by
  unfold Go.Proofs.YtkaffmlppfppeaaDoor.MStr.joined
  show Lib.join _ [] = _ ++ Lib.join _ []
  rw [join_flat, join_flat, List.map_cons, List.flatten_cons]
theorem joined_len (l : List ByteArray) : (Go.Proofs.YtkaffmlppfppeaaDoor.MStr.joined l (⟨#[]⟩ : ByteArray)).length = tot l := by
  induction l with
  | nil => rfl
  | cons x l ih => rw [joined_cons, List.length_append, ih, sz_toList]; rfl

/-- the rows' cells, joined -/
theorem joined_cells {w h : Int} {c : ByteArray} (g : gridOk w h c = true) (d : Nat) : ∀ y : Nat, (y : Int) + d = h → Go.Proofs.YtkaffmlppfppeaaDoor.MStr.joined (cellsL c w d y) (⟨#[]⟩ : ByteArray) = (c.extract ((y : Int) * w).toNat c.size).data.toList := by
  obtain ⟨h1, h2, h3, h4, h5⟩ := gridOk_side g
  induction d with
  | zero =>
    intro y hy
    have e : ((y : Int) * w).toNat = c.size := by
      have : (y : Int) * w = w * h := by rw [show (y : Int) = h by omega, Int.mul_comm]
      omega
    show Go.Proofs.YtkaffmlppfppeaaDoor.MStr.joined [⟨#[]⟩] (⟨#[]⟩ : ByteArray) = _
    rw [joined_cons, e, ByteArray.data_extract, Array.toList_extract]
    simp
    rfl
  | succ d ih =>
    intro y hy
    obtain ⟨r0, r1, r2, w1, w8, h8⟩ := row_in g (y := (y : Int)) (by omega) (by omega)
    have hn := ih (y + 1) (by omega)
    have e : ((y + 1 : Nat) : Int) * w = (y : Int) * w + w := by rw [show ((y + 1 : Nat) : Int) = (y : Int) + 1 from rfl, Int.add_mul, Int.one_mul]
    rw [e] at hn
    show Go.Proofs.YtkaffmlppfppeaaDoor.MStr.joined (c.extract ((y : Int) * w).toNat ((y : Int) * w + w).toNat :: cellsL c w d ((y : Int) + 1)) (⟨#[]⟩ : ByteArray) = _
    rw [joined_cons, show ((y : Int) + 1) = ((y + 1 : Nat) : Int) from rfl, hn, ← Array.toList_append, ← ByteArray.data_append, ByteArray.extract_append_extract]
    rw [Nat.min_eq_left (by omega), Nat.max_eq_right (by omega)]

theorem cells_whole {w h : Int} {c : ByteArray} (g : gridOk w h c = true) : (⟨(Go.Proofs.YtkaffmlppfppeaaDoor.MStr.joined (cellsL c w h.toNat 0) (⟨#[]⟩ : ByteArray)).toArray⟩ : ByteArray) = c := by
  have := joined_cells g h.toNat 0 (by have := (gridOk_side g).2.2.1; omega)
  rw [show ((0 : Nat) : Int) = 0 from rfl] at this
  rw [this, Int.zero_mul]
  show (⟨(c.extract 0 c.size).data.toList.toArray⟩ : ByteArray) = c
  rw [ByteArray.extract_zero_size]

/-! impl.GridOk -/
theorem impl_cells (w h : Int) (c : ByteArray) (hc : c.size ≤ 64) (d : Nat) : ∀ i : Int, 0 ≤ i → i + d = c.size → Ev (fun k => impl_GridOk.l0 k i w h c) (cellsOk c d i) := by
  induction d with
  | zero => intro i h0 h1; exact Ev.step (f := fun _ => some true) (fun k => by rw [impl_GridOk.l0, if_neg (by omega)]) (Ev.now _)
  | succ d ih =>
    intro i h0 h1
    rw [cellsOk]
    have hnext := ih (i + 1) (by omega) (by omega)
    have hw : wrap64 (i + 1) = i + 1 := w64 (by omega) (by omega)
    cases hk : cellOk (bt c i) with
    | true =>
      have hk2 := of_decide_eq_true hk
      refine Ev.step (f := fun k => impl_GridOk.l0 k (i + 1) w h c) (fun k => ?_) hnext
      rw [impl_GridOk.l0, if_pos (by omega), if_pos h0, hw]
      repeat' split
      all_goals first | rfl | omega
    | false =>
      have hk2 := of_decide_eq_false hk
      refine Ev.step (f := fun k => some false) (fun k => ?_) (Ev.now _)
      rw [impl_GridOk.l0, if_pos (by omega), if_pos h0, hw]
      repeat' split
      all_goals first | rfl | omega

theorem iGridOk (w h : Int) (c : ByteArray) : Ev (fun k => impl_GridOk.f k w h c) (gridOk w h c) := by
  have bad : ∀ hn : ¬ sideOk w h c, Ev (fun k => impl_GridOk.j0 k true w h c) (gridOk w h c) := fun hn => by
    have : gridOk w h c = false := by unfold gridOk; rw [decide_eq_false hn]; rfl
    rw [this]
    exact Ev.step (fun k => by rw [impl_GridOk.j0, if_pos rfl]) (Ev.now _)
  by_cases h1 : w < 1
  · exact Ev.congr (fun k => by unfold impl_GridOk.f; rw [if_pos h1]) (bad (fun hs => by have := hs.1; omega))
  by_cases h2 : w > 8
  · exact Ev.congr (fun k => by unfold impl_GridOk.f; rw [if_neg h1, if_pos h2]) (bad (fun hs => by have := hs.2.1; omega))
  by_cases h3 : h < 1
  · exact Ev.congr (fun k => by unfold impl_GridOk.f; rw [if_neg h1, if_neg h2, if_pos h3]) (bad (fun hs => by have := hs.2.2.1; omega))
  by_cases h4 : h > 8
  · exact Ev.congr (fun k => by unfold impl_GridOk.f; rw [if_neg h1, if_neg h2, if_neg h3, if_pos h4]) (bad (fun hs => by have := hs.2.2.2.1; omega))
  have hm := side_mul (w := w) (h := h) (by omega) (by omega) (by omega) (by omega)
  have hw : wrap64 (w * h) = w * h := w64 (by omega) (by omega)
  refine Ev.congr (fun k => by unfold impl_GridOk.f; rw [if_neg h1, if_neg h2, if_neg h3, if_neg h4, hw]) ?_
  by_cases h5 : (c.size : Int) = w * h
  · have : gridOk w h c = cellsOk c c.size 0 := by unfold gridOk; rw [decide_eq_true (show sideOk w h c from ⟨by omega, by omega, by omega, by omega, h5⟩)]; rfl
    rw [this]
    exact Ev.step (fun k => by rw [impl_GridOk.j0, if_neg (by simpa using h5)]) (impl_cells w h c (by omega) c.size 0 (by omega) (by omega))
  · have : ((c.size : Int) != w * h) = true := by simpa using h5
    rw [this]
    exact bad (fun hs => h5 hs.2.2.2.2)

/-! impl.GridText -/
theorem iText_l0 {w h : Int} {c : ByteArray} (g : gridOk w h c = true) (d : Nat) : ∀ (y : Nat) (acc : ByteArray), (y : Int) + d = h → acc.size ≤ 100 + 9 * y → Ev (fun k => impl_GridText.l0 k acc y w h c) (acc ++ rowsT c w d y, true) := by
  induction d with
  | zero =>
    intro y acc hy _
    have e : acc ++ rowsT c w 0 y = acc := ByteArray.append_empty
    rw [e]
    exact Ev.step (f := fun _ => some (acc, true)) (fun k => by rw [impl_GridText.l0, if_neg (by omega)]) (Ev.now _)
  | succ d ih =>
    intro y acc hy hs
    obtain ⟨r0, r1, r2, w1, w8, h8⟩ := row_in g (y := (y : Int)) (by omega) (by omega)
    have hlt : (y : Int) < h := by omega
    have e1 : wrap64 ((y : Int) * w) = (y : Int) * w := w64 (by omega) (by omega)
    have e3 : wrap64 ((y : Int) + 1) = ((y + 1 : Nat) : Int) := by rw [w64 (by omega) (by omega)]; omega
    have e2 : wrap64 (((y + 1 : Nat) : Int) * w) = (y : Int) * w + w := by
      have : ((y + 1 : Nat) : Int) * w = (y : Int) * w + w := by rw [show ((y + 1 : Nat) : Int) = (y : Int) + 1 from rfl, Int.add_mul, Int.one_mul]
      rw [this]
      exact w64 (by omega) (by omega)
    have hz := row_size c w1 w8 r0
    have hx : (c.extract ((y : Int) * w).toNat ((y : Int) * w + w).toNat).size + 1 ≤ 9 := by
      unfold rowT at hz
      rw [ByteArray.size_append, size1] at hz
      exact hz
    have hrec := ih (y + 1) (acc ++ rowT c w y) (by omega) (by rw [ByteArray.size_append]; omega)
    have e4 : acc ++ rowsT c w (d + 1) y = (acc ++ rowT c w y) ++ rowsT c w d ((y + 1 : Nat) : Int) := by
      have : rowsT c w (d + 1) y = rowT c w y ++ rowsT c w d ((y : Int) + 1) := rfl
      rw [this, ByteArray.append_assoc]
      rfl
    rw [e4]
    refine Ev.step (fun k => ?_) hrec
    rw [impl_GridText.l0, if_pos hlt, e1, if_pos r0, e3, e2, if_pos (by omega), if_pos r1, if_pos (by omega), if_pos (by rw [ByteArray.size_append, size1]; omega)]
    rfl

theorem iDec_ev {n : Int} (h0 : 1 ≤ n) (h1 : n ≤ 8) : Ev (fun k => impl_Decimal.f k n) (dec n) := Ev.bind (dec_ev h0 h1) (Ev.now _)

theorem iText (w h : Int) (c : ByteArray) : Ev (fun k => impl_GridText.f k w h c) (if gridOk w h c = true then (gridT w h c, true) else ((⟨#[]⟩ : ByteArray), false)) := by
  have hg := iGridOk w h c
  cases g : gridOk w h c with
  | false =>
    rw [g] at hg
    rw [if_neg (by simp)]
    exact Ev.bind hg (Ev.of_eq fun k => by rw [if_neg (by simp)])
  | true =>
    rw [g] at hg
    rw [if_pos rfl]
    obtain ⟨h1, h2, h3, h4, h5⟩ := gridOk_side g
    have zh := dec_size h3 h4
    have zw := dec_size h1 h2
    have hl := iText_l0 g h.toNat 0 (headT (dec h) (dec w)) (by omega) (by rw [head_size]; omega)
    rw [show ((0 : Nat) : Int) = 0 from rfl] at hl
    have e0 : (⟨#[]⟩ : ByteArray) ++ headT (dec h) (dec w) = headT (dec h) (dec w) := ByteArray.empty_append
    rw [← e0] at hl
    have e1 : ((⟨#[]⟩ : ByteArray) ++ headT (dec h) (dec w)) ++ rowsT c w h.toNat 0 = gridT w h c := by rw [e0]; rfl
    rw [e1] at hl
    refine Ev.bind hg (Ev.congr (fun k => by rw [if_pos rfl]) (Ev.bind (iDec_ev h3 h4) ?_))
    refine Ev.congr (fun k => by rw [if_pos (by omega), if_pos (by rw [ByteArray.size_append, size7a]; omega)]) (Ev.bind (iDec_ev h1 h2) ?_)
    exact Ev.congr (fun k => by rw [if_pos (by simp only [ByteArray.size_append, size7a, size7b]; omega), if_pos (by simp only [ByteArray.size_append, size7a, size7b]; omega), if_pos (by simp only [ByteArray.size_append, size7a, size7b, size5]; omega)]; rfl) hl

/-! impl.ReadGrid -/
def readIs (t : ByteArray) (r : Int × Int × ByteArray × Bool) : Prop :=
  (∃ w h c, gridOk w h c = true ∧ t = gridT w h c ∧ r = (w, h, c, true)) ∨ ((∀ w h c, gridOk w h c = true → t ≠ gridT w h c) ∧ r = (0, 0, (⟨#[]⟩ : ByteArray), false))

theorem rows_size {w h : Int} {c : ByteArray} (g : gridOk w h c = true) (d : Nat) : ∀ y : Nat, (y : Int) + d = h → ((rowsT c w d y).size : Int) = d * (w + 1) := by
  obtain ⟨h1, h2, h3, h4, h5⟩ := gridOk_side g
  induction d with
  | zero => intro y _; rw [show ((0 : Nat) : Int) = 0 from rfl, Int.zero_mul]; rfl
  | succ d ih =>
    intro y hy
    obtain ⟨r0, r1, r2, w1, w8, h8⟩ := row_in g (y := (y : Int)) (by omega) (by omega)
    have hn := ih (y + 1) (by omega)
    show (((rowT c w y ++ rowsT c w d ((y : Int) + 1)).size : Nat) : Int) = _
    rw [show ((y : Int) + 1) = ((y + 1 : Nat) : Int) from rfl, ByteArray.size_append, Int.natCast_add, hn]
    unfold rowT
    rw [ByteArray.size_append, ByteArray.size_extract, size1, show ((d + 1 : Nat) : Int) = (d : Int) + 1 from rfl, Int.add_mul, Int.one_mul]
    omega
theorem grid_size {w h : Int} {c : ByteArray} (g : gridOk w h c = true) : ((gridT w h c).size : Int) = 21 + h * (w + 1) ∧ (gridT w h c).size ≤ 93 := by
  obtain ⟨h1, h2, h3, h4, h5⟩ := gridOk_side g
  have hr := rows_size g h.toNat 0 (by omega)
  rw [show ((h.toNat : Nat) : Int) = h by omega, show ((0 : Nat) : Int) = 0 from rfl] at hr
  have e : (gridT w h c).size = (headT (dec h) (dec w)).size + (rowsT c w h.toNat 0).size := by unfold gridT; rw [ByteArray.size_append]
  have b : h * (w + 1) ≤ 8 * 9 := Int.mul_le_mul (by omega) (by omega) (by omega) (by omega)
  rw [head_size, dec_size h3 h4, dec_size h1 h2] at e
  omega

theorem trim_len (s p : List UInt8) : (Lib.trimPrefix s p).length ≤ s.length := by
  unfold Lib.trimPrefix
  split
  · rw [List.length_drop]; omega
  · exact Nat.le_refl _
theorem trim_of (p x : ByteArray) : (⟨(Lib.trimPrefix (p ++ x).data.toList p.data.toList).toArray⟩ : ByteArray) = x := by
  have e : (p ++ x).data.toList = p.data.toList ++ x.data.toList := by rw [ByteArray.data_append, Array.toList_append]
  have hp : Lib.hasPrefix (p.data.toList ++ x.data.toList) p.data.toList = true := by
    unfold Lib.hasPrefix
    rw [List.isPrefixOf_iff_prefix]
    exact List.prefix_append _ _
  unfold Lib.trimPrefix
  rw [e, if_pos hp, List.drop_left]

theorem rd_ev (s : ByteArray) (hs : s.size ≤ 281474976710656) : ∃ r, Ev (fun k => impl_ReadDecimal.f k s) r ∧ Go.Proofs.YtkaffmlppfppeaaDoor.MReadDecimal.Is s.data.toList r := by
  obtain ⟨r, hf, hr⟩ := Go.Proofs.YtkaffmlppfppeaaDoor.MReadDecimal.spec s
  refine ⟨r, Ev.of (fun k => impl_ReadDecimal.mono s k) (k := 60) ?_, hr⟩
  unfold impl_ReadDecimal.f
  rw [if_pos hs, hf]
  rfl
theorem rd_dec {n : Int} (h0 : 1 ≤ n) (h1 : n ≤ 8) {r : Int × Bool} (h : Go.Proofs.YtkaffmlppfppeaaDoor.MReadDecimal.Is (dec n).data.toList r) : r = (n, true) := by
  obtain ⟨u, rfl⟩ : ∃ u : Nat, n = u := ⟨n.toNat, by omega⟩
  exact h.unique (.inl ⟨u, by omega, rfl, rfl⟩)

theorem iReadGrid (t : ByteArray) : ∃ r, Ev (fun k => impl_ReadGrid.f k t) r ∧ readIs t r := by
  have no : t.size > 93 → ∀ w h c, gridOk w h c = true → t ≠ gridT w h c := fun ht w h c g e => by
    have := (grid_size g).2
    rw [← e] at this
    omega
  by_cases hbig : (t.size : Int) > 20000
  · exact ⟨_, Ev.of_eq fun k => by unfold impl_ReadGrid.f; rw [if_pos hbig], .inr ⟨no (by omega), rfl⟩⟩
  have hs : t.size ≤ 20000 := by omega
  have htot := tot_split nl (Lib.countB t nl) t
  have hsplit : Go.Proofs.YtkaffmlppfppeaaDoor.MStr.strings_Split.f t (⟨#[10]⟩ : ByteArray) = some (Lib.splitB nl 0 (Lib.countB t nl) t) := by
    unfold Go.Proofs.YtkaffmlppfppeaaDoor.MStr.strings_Split.f
    exact if_pos ⟨by omega, by decide⟩
  have hgrid : ∀ w h c, gridOk w h c = true → t = gridT w h c → Lib.splitB nl 0 (Lib.countB t nl) t = lineH h :: lineW w :: lineM :: cellsL c w h.toNat 0 := fun w h c g e => by rw [e]; exact grid_split g
  generalize Lib.splitB nl 0 (Lib.countB t nl) t = ls at htot hsplit hgrid
  have e0 : rdOf ByteArray.empty ls 0 = ls.getD 0 ByteArray.empty := rfl
  have e1 : rdOf ByteArray.empty ls 1 = ls.getD 1 ByteArray.empty := rfl
  by_cases h3 : (ls.length : Int) < 3
  · refine ⟨_, Ev.of_eq fun k => by unfold impl_ReadGrid.f; rw [if_neg hbig, hsplit, Option.bind_some, if_pos h3], .inr ⟨fun w h c g e => ?_, rfl⟩⟩
    have := hgrid w h c g e
    rw [this] at h3
    simp only [List.length_cons] at h3
    omega
  have g0 := tot_get ls 0
  have g1 := tot_get ls 1
  have g3 := tot_drop ls 3
  obtain ⟨p0, hp0⟩ : ∃ p : ByteArray, p = ⟨(Lib.trimPrefix (ls.getD 0 ByteArray.empty).data.toList (⟨#[104, 101, 105, 103, 104, 116, 32]⟩ : ByteArray).data.toList).toArray⟩ := ⟨_, rfl⟩
  obtain ⟨p1, hp1⟩ : ∃ p : ByteArray, p = ⟨(Lib.trimPrefix (ls.getD 1 ByteArray.empty).data.toList (⟨#[119, 105, 100, 116, 104, 32]⟩ : ByteArray).data.toList).toArray⟩ := ⟨_, rfl⟩
  have s0 : p0.size ≤ 281474976710656 := by
    have := trim_len (ls.getD 0 ByteArray.empty).data.toList (⟨#[104, 101, 105, 103, 104, 116, 32]⟩ : ByteArray).data.toList
    rw [sz_toList] at this
    rw [hp0]
    show (Lib.trimPrefix _ _).toArray.size ≤ _
    rw [List.size_toArray]
    omega
  have s1 : p1.size ≤ 281474976710656 := by
    have := trim_len (ls.getD 1 ByteArray.empty).data.toList (⟨#[119, 105, 100, 116, 104, 32]⟩ : ByteArray).data.toList
    rw [sz_toList] at this
    rw [hp1]
    show (Lib.trimPrefix _ _).toArray.size ≤ _
    rw [List.size_toArray]
    omega
  obtain ⟨⟨n0, b0⟩, hr0, is0⟩ := rd_ev p0 s0
  obtain ⟨⟨n1, b1⟩, hr1, is1⟩ := rd_ev p1 s1
  obtain ⟨cs, hcs⟩ : ∃ cs : ByteArray, cs = ⟨(Go.Proofs.YtkaffmlppfppeaaDoor.MStr.joined (ls.drop 3) (⟨#[]⟩ : ByteArray)).toArray⟩ := ⟨_, rfl⟩
  have hlen : ∀ l : List ByteArray, l.length ≤ ls.length → l.length ≤ 140737488355328 := fun l hl => by
    have := Lib.splitB_length_le nl 0 (Lib.countB t nl) t
    have hc := Lib.countB_le nl (by decide) t.size t (Nat.le_refl _)
    have e : ls = Lib.splitB nl 0 (Lib.countB t nl) t := by
      have h1 := hsplit
      unfold Go.Proofs.YtkaffmlppfppeaaDoor.MStr.strings_Split.f at h1
      have h2 : t.size < 4294967281 ∧ 1 ≤ (⟨#[10]⟩ : ByteArray).size := ⟨by omega, by decide⟩
      rw [if_pos h2] at h1
      exact (Option.some.inj h1).symm
    rw [← e] at this
    omega
  have hjoin : Go.Proofs.YtkaffmlppfppeaaDoor.MStr.strings_Join.f (ls.drop 3) (⟨#[]⟩ : ByteArray) = some cs := by
    unfold Go.Proofs.YtkaffmlppfppeaaDoor.MStr.strings_Join.f
    rw [if_pos ⟨hlen _ (by rw [List.length_drop]; omega), by rw [joined_len]; omega⟩, hcs]
  have htext := iText n1 n0 cs
  have walk : ∀ r, (Ev (fun k => (impl_GridText.f k n1 n0 cs).bind fun bt => (if bt.2 = true then (if bt.1.toList = t.toList then (some (n1, n0, cs, true)) else (some (0, 0, (⟨#[]⟩ : ByteArray), false))) else (some (0, 0, (⟨#[]⟩ : ByteArray), false)))) r) → Ev (fun k => impl_ReadGrid.f k t) r := fun r hr => by
    have t0 : Go.Proofs.YtkaffmlppfppeaaDoor.MStr.strings_TrimPrefix.f (rdOf ByteArray.empty ls 0) (⟨#[104, 101, 105, 103, 104, 116, 32]⟩ : ByteArray) = some p0 := by rw [hp0]; rfl
    have t1 : Go.Proofs.YtkaffmlppfppeaaDoor.MStr.strings_TrimPrefix.f (rdOf ByteArray.empty ls 1) (⟨#[119, 105, 100, 116, 104, 32]⟩ : ByteArray) = some p1 := by rw [hp1]; rfl
    refine Ev.congr (fun k => by unfold impl_ReadGrid.f; rw [if_neg hbig, hsplit, Option.bind_some, if_neg h3, if_pos (show (0 : Int) < (ls.length : Int) by omega), t0, Option.bind_some]) (Ev.bind hr0 ?_)
    refine Ev.congr (fun k => by dsimp only; rw [if_pos (show (1 : Int) < (ls.length : Int) by omega), t1, Option.bind_some]) (Ev.bind hr1 ?_)
    exact Ev.congr (fun k => by dsimp only; rw [if_pos (show (3 : Int) ≤ (ls.length : Int) by omega), hjoin, Option.bind_some]) hr
  have tl : ∀ a b : ByteArray, a.toList = b.toList ↔ a = b := fun a b => ⟨fun e => by
    rw [ByteArray.toList_eq, ByteArray.toList_eq] at e
    exact ByteArray.ext (Array.toList_inj.1 e), fun e => by rw [e]⟩
  -- a grid of this text is the one that was parsed
  have only : ∀ w h c, gridOk w h c = true → t = gridT w h c → n1 = w ∧ n0 = h ∧ cs = c := fun w h c g e => by
    obtain ⟨h1, h2, h3', h4, h5⟩ := gridOk_side g
    have hl := hgrid w h c g e
    have q0 : p0 = dec h := by rw [hp0, hl]; exact trim_of _ _
    have q1 : p1 = dec w := by rw [hp1, hl]; exact trim_of _ _
    rw [q0] at is0
    rw [q1] at is1
    have r0 := rd_dec h3' h4 is0
    have r1 := rd_dec h1 h2 is1
    refine ⟨(Prod.mk.inj r1).1, (Prod.mk.inj r0).1, ?_⟩
    rw [hcs, hl]
    exact cells_whole g
  cases g : gridOk n1 n0 cs with
  | false =>
    rw [g, if_neg (by simp)] at htext
    refine ⟨_, walk _ (Ev.bind htext (Ev.of_eq fun k => by dsimp only; rw [if_neg (by simp)])), .inr ⟨fun w h c g' e => ?_, rfl⟩⟩
    obtain ⟨q1, q2, q3⟩ := only w h c g' e
    rw [q1, q2, q3, g'] at g
    cases g
  | true =>
    rw [g, if_pos rfl] at htext
    by_cases e : gridT n1 n0 cs = t
    · exact ⟨_, walk _ (Ev.bind htext (Ev.of_eq fun k => by dsimp only; rw [if_pos rfl, if_pos ((tl _ _).2 e)])), .inl ⟨n1, n0, cs, g, e.symm, rfl⟩⟩
    · refine ⟨_, walk _ (Ev.bind htext (Ev.of_eq fun k => by dsimp only; rw [if_pos rfl, if_neg (fun hh => e ((tl _ _).1 hh))])), .inr ⟨fun w h c g' e' => ?_, rfl⟩⟩
      obtain ⟨q1, q2, q3⟩ := only w h c g' e'
      rw [q1, q2, q3] at e
      exact e e'.symm

theorem iReadGrid_of {w h : Int} {c : ByteArray} (g : gridOk w h c = true) : Ev (fun k => impl_ReadGrid.f k (gridT w h c)) (w, h, c, true) := by
  obtain ⟨r, hr, hi⟩ := iReadGrid (gridT w h c)
  rcases hi with ⟨w', h', c', g', e, rfl⟩ | ⟨hn, _⟩
  · have := hr
    -- the text tells the grid: both are cut into the same lines
    have l1 := grid_split g
    have l2 := grid_split g'
    rw [← e, l1] at l2
    obtain ⟨q1, q2⟩ := List.cons.inj l2
    obtain ⟨q3, q4⟩ := List.cons.inj q2
    obtain ⟨_, q5⟩ := List.cons.inj q4
    obtain ⟨h1, h2, h3, h4, _⟩ := gridOk_side g
    obtain ⟨h1', h2', h3', h4', _⟩ := gridOk_side g'
    have dinj : ∀ {a b : Int}, 1 ≤ a → a ≤ 8 → 1 ≤ b → b ≤ 8 → dec a = dec b → a = b := fun {a b} a0 a1 b0 b1 hd => by
      rw [dec_one a0 a1, dec_one b0 b1] at hd
      have hd2 : UInt8.ofNat (48 + a.toNat) = UInt8.ofNat (48 + b.toNat) := by simpa using hd
      have hd3 := congrArg UInt8.toNat hd2
      rw [UInt8.toNat_ofNat', UInt8.toNat_ofNat'] at hd3
      omega
    have eh : h = h' := dinj h3 h4 h3' h4' ((ByteArray.append_right_inj _).1 q1)
    have ew : w = w' := dinj h1 h2 h1' h2' ((ByteArray.append_right_inj _).1 q3)
    subst eh
    subst ew
    have ec : c = c' := by
      have a := cells_whole g
      have b := cells_whole g'
      rw [q5] at a
      exact a.symm.trans b
    rw [ec]
    rw [ec] at hr
    exact hr
  · exact absurd rfl (hn w h c g)

/-! spec.GridOk -/
theorem l02Kind_eq (b : Int) : spec_l02Kind.f b = some (cellOk b) := by
  unfold spec_l02Kind.f cellOk
  repeat' split
  all_goals
    congr 1
    first
    | (rw [decide_eq_decide]; omega)
    | (rw [eq_comm, decide_eq_true_eq]; omega)
    | (rw [eq_comm, decide_eq_false_iff_not]; omega)

theorem spec_cells (w h : Int) (c : ByteArray) (hc : c.size ≤ 64) (d : Nat) : ∀ i : Int, 0 ≤ i → i + d = c.size → Ev (fun k => spec_GridOk.l0 k i w h c) (cellsOk c d i) := by
  induction d with
  | zero => intro i h0 h1; exact Ev.step (f := fun _ => some true) (fun k => by rw [spec_GridOk.l0, if_neg (by omega)]) (Ev.now _)
  | succ d ih =>
    intro i h0 h1
    rw [cellsOk]
    cases hk : cellOk (bt c i) with
    | true => exact Ev.step (fun k => by rw [spec_GridOk.l0, if_pos (by omega), if_pos h0, l02Kind_eq, hk, Option.bind_some, if_pos rfl, w64 (by omega) (by omega)]) (ih (i + 1) (by omega) (by omega))
    | false => exact Ev.step (f := fun _ => some false) (fun k => by rw [spec_GridOk.l0, if_pos (by omega), if_pos h0, l02Kind_eq, hk, Option.bind_some, if_neg (by simp)]) (Ev.now _)

theorem sGridOk (w h : Int) (c : ByteArray) : Ev (fun k => spec_GridOk.f k w h c) (gridOk w h c) := by
  have bad : ∀ hn : ¬ sideOk w h c, Ev (fun k => spec_GridOk.j0 k true w h c) (gridOk w h c) := fun hn => by
    have : gridOk w h c = false := by unfold gridOk; rw [decide_eq_false hn]; rfl
    rw [this]
    exact Ev.step (fun k => by rw [spec_GridOk.j0, if_pos rfl]) (Ev.now _)
  by_cases h1' : ¬ w ≥ 1
  · have h1 := h1'
    exact Ev.congr (fun k => by unfold spec_GridOk.f spec_l01In.f; rw [if_neg h1, Option.bind_some, if_neg (by simp)]) (bad (fun hs => h1 hs.1))
  have h1 := Decidable.not_not.mp h1'
  by_cases h2' : ¬ w ≤ 8
  · have h2 := h2'
    exact Ev.congr (fun k => by unfold spec_GridOk.f spec_l01In.f; rw [if_pos h1, Option.bind_some, if_neg (by simpa using h2)]) (bad (fun hs => h2 hs.2.1))
  have h2 := Decidable.not_not.mp h2'
  by_cases h3' : ¬ h ≥ 1
  · have h3 := h3'
    exact Ev.congr (fun k => by unfold spec_GridOk.f spec_l01In.f; rw [if_pos h1, Option.bind_some, if_pos (by simpa using h2), if_neg h3, Option.bind_some, if_neg (by simp)]) (bad (fun hs => h3 hs.2.2.1))
  have h3 := Decidable.not_not.mp h3'
  by_cases h4' : ¬ h ≤ 8
  · have h4 := h4'
    exact Ev.congr (fun k => by unfold spec_GridOk.f spec_l01In.f; rw [if_pos h1, Option.bind_some, if_pos (by simpa using h2), if_pos h3, Option.bind_some, if_neg (by simpa using h4)]) (bad (fun hs => h4 hs.2.2.2.1))
  have h4 := Decidable.not_not.mp h4'
  have hm := side_mul h1 h2 h3 h4
  have hw : wrap64 (w * h) = w * h := w64 (by omega) (by omega)
  refine Ev.congr (fun k => by unfold spec_GridOk.f spec_l01In.f; rw [if_pos h1, Option.bind_some, if_pos (by simpa using h2), if_pos h3, Option.bind_some, if_pos (by simpa using h4), hw]) ?_
  by_cases h5 : (c.size : Int) = w * h
  · have : gridOk w h c = cellsOk c c.size 0 := by unfold gridOk; rw [decide_eq_true (show sideOk w h c from ⟨h1, h2, h3, h4, h5⟩)]; rfl
    rw [this]
    exact Ev.step (fun k => by rw [spec_GridOk.j0, if_neg (by simpa using h5)]) (spec_cells w h c (by omega) c.size 0 (by omega) (by omega))
  · have : ((c.size : Int) != w * h) = true := by simpa using h5
    rw [this]
    exact bad (fun hs => h5 hs.2.2.2.2)

/-! spec.GridText -/
theorem sText_l0 {w h : Int} {c : ByteArray} (g : gridOk w h c = true) (d : Nat) : ∀ (y : Nat) (acc : ByteArray), (y : Int) + d = h → acc.size ≤ 100 + 9 * y → Ev (fun k => spec_GridText.l0 k acc y w h c) (acc ++ rowsT c w d y, true) := by
  induction d with
  | zero =>
    intro y acc hy _
    have e : acc ++ rowsT c w 0 y = acc := ByteArray.append_empty
    rw [e]
    exact Ev.step (f := fun _ => some (acc, true)) (fun k => by rw [spec_GridText.l0, if_neg (by omega)]) (Ev.now _)
  | succ d ih =>
    intro y acc hy hs
    obtain ⟨r0, r1, r2, w1, w8, h8⟩ := row_in g (y := (y : Int)) (by omega) (by omega)
    have hlt : (y : Int) < h := by omega
    have e1 : wrap64 ((y : Int) * w) = (y : Int) * w := w64 (by omega) (by omega)
    have e2 : wrap64 ((y : Int) * w + w) = (y : Int) * w + w := w64 (by omega) (by omega)
    have e3 : wrap64 ((y : Int) + 1) = ((y + 1 : Nat) : Int) := by rw [w64 (by omega) (by omega)]; omega
    have hz := row_size c w1 w8 r0
    have hx : (c.extract ((y : Int) * w).toNat ((y : Int) * w + w).toNat).size + 1 ≤ 9 := by
      unfold rowT at hz
      rw [ByteArray.size_append, size1] at hz
      exact hz
    have hrec := ih (y + 1) (acc ++ rowT c w y) (by omega) (by rw [ByteArray.size_append]; omega)
    have e4 : acc ++ rowsT c w (d + 1) y = (acc ++ rowT c w y) ++ rowsT c w d ((y + 1 : Nat) : Int) := by
      have : rowsT c w (d + 1) y = rowT c w y ++ rowsT c w d ((y : Int) + 1) := rfl
      rw [this, ByteArray.append_assoc]
      rfl
    have e5 : acc ++ rowT c w y = (acc ++ c.extract ((y : Int) * w).toNat ((y : Int) * w + w).toNat) ++ (⟨#[10]⟩ : ByteArray) := by
      unfold rowT
      rw [ByteArray.append_assoc]
    rw [e4]
    rw [e5] at hrec ⊢
    refine Ev.step (fun k => ?_) hrec
    rw [spec_GridText.l0, if_pos hlt, e1, if_pos r0, e2, if_pos (by omega), if_pos r1, if_pos (by omega), if_pos (by rw [ByteArray.size_append]; omega), e3]

theorem sText (w h : Int) (c : ByteArray) : Ev (fun k => spec_GridText.f k w h c) (if gridOk w h c = true then (gridT w h c, true) else ((⟨#[]⟩ : ByteArray), false)) := by
  have hg := sGridOk w h c
  cases g : gridOk w h c with
  | false =>
    rw [g] at hg
    rw [if_neg (by simp)]
    exact Ev.bind hg (Ev.of_eq fun k => by rw [if_neg (by simp)])
  | true =>
    rw [g] at hg
    rw [if_pos rfl]
    obtain ⟨h1, h2, h3, h4, h5⟩ := gridOk_side g
    have zh := dec_size h3 h4
    have zw := dec_size h1 h2
    have hl := sText_l0 g h.toNat 0 (headT (dec h) (dec w)) (by omega) (by rw [head_size]; omega)
    rw [show ((0 : Nat) : Int) = 0 from rfl] at hl
    refine Ev.bind hg (Ev.congr (fun k => by rw [if_pos rfl]) (Ev.bind (dec_ev h3 h4) ?_))
    refine Ev.congr (fun k => by rw [if_pos (by omega), if_pos (by rw [ByteArray.size_append, size7a]; omega)]) (Ev.bind (dec_ev h1 h2) ?_)
    exact Ev.congr (fun k => by rw [if_pos (by simp only [ByteArray.size_append, size7a, size7b]; omega), if_pos (by simp only [ByteArray.size_append, size7a, size7b]; omega)]; rfl) hl

/-! spec.ReadGrid -/
def collC (w : Nat) : Nat → List UInt8 → List UInt8
  | _, [] => []
  | x, b :: l => if x < w then b :: collC w (x + 1) l else collC w 0 l

theorem collC_row (w : Nat) (rest : List UInt8) (r : List UInt8) : ∀ x : Nat, x + r.length = w → collC w x (r ++ 10 :: rest) = r ++ collC w 0 rest := by
  induction r with
  | nil =>
    intro x hx
    rw [List.length_nil] at hx
    show (if x < w then _ else collC w 0 rest) = collC w 0 rest
    rw [if_neg (by omega)]
  | cons b r ih =>
    intro x hx
    rw [List.length_cons] at hx
    show (if x < w then b :: collC w (x + 1) (r ++ 10 :: rest) else _) = b :: (r ++ collC w 0 rest)
    rw [if_pos (by omega), ih (x + 1) (by omega)]

theorem collC_rows {w h : Int} {c : ByteArray} (g : gridOk w h c = true) (d : Nat) : ∀ y : Nat, (y : Int) + d = h → collC w.toNat 0 (rowsT c w d y).data.toList = (c.extract ((y : Int) * w).toNat c.size).data.toList := by
  obtain ⟨h1, h2, h3, h4, h5⟩ := gridOk_side g
  induction d with
  | zero =>
    intro y hy
    have e : ((y : Int) * w).toNat = c.size := by
      have : (y : Int) * w = w * h := by rw [show (y : Int) = h by omega, Int.mul_comm]
      omega
    rw [e, ByteArray.data_extract, Array.toList_extract]
    show [] = _
    simp
  | succ d ih =>
    intro y hy
    obtain ⟨r0, r1, r2, w1, w8, h8⟩ := row_in g (y := (y : Int)) (by omega) (by omega)
    have hn := ih (y + 1) (by omega)
    have e : ((y + 1 : Nat) : Int) * w = (y : Int) * w + w := by rw [show ((y + 1 : Nat) : Int) = (y : Int) + 1 from rfl, Int.add_mul, Int.one_mul]
    rw [e] at hn
    have ed : (rowsT c w (d + 1) y).data.toList = (c.extract ((y : Int) * w).toNat ((y : Int) * w + w).toNat).data.toList ++ 10 :: (rowsT c w d ((y + 1 : Nat) : Int)).data.toList := by
      show ((c.extract ((y : Int) * w).toNat ((y : Int) * w + w).toNat ++ (⟨#[10]⟩ : ByteArray)) ++ rowsT c w d ((y : Int) + 1)).data.toList = _
      rw [ByteArray.data_append, ByteArray.data_append, Array.toList_append, Array.toList_append, List.append_assoc]
      rfl
    rw [ed, collC_row w.toNat _ _ 0 (by rw [sz_toList, ByteArray.size_extract]; omega), hn, ← Array.toList_append, ← ByteArray.data_append, ByteArray.extract_append_extract]
    rw [Nat.min_eq_left (by omega), Nat.max_eq_right (by omega)]

theorem bmod (i w : Nat) : (i % (w + 1) < w ∧ (i + 1) % (w + 1) = i % (w + 1) + 1) ∨ (¬ i % (w + 1) < w ∧ (i + 1) % (w + 1) = 0) := by
  have h := Nat.mod_lt i (show 0 < w + 1 by omega)
  have e : (i + 1) % (w + 1) = (i % (w + 1) + 1) % (w + 1) := (Nat.mod_add_mod i (w + 1) 1).symm
  by_cases c : i % (w + 1) < w
  · exact .inl ⟨c, by rw [e, Nat.mod_eq_of_lt (by omega)]⟩
  · exact .inr ⟨c, by rw [e, show i % (w + 1) + 1 = w + 1 by omega, Nat.mod_self]⟩

theorem wadd {a b : Nat} (h : a + b ≤ 1000) : wrap64 ((a : Int) + (b : Int)) = ((a + b : Nat) : Int) := by rw [w64 (by omega) (by omega)]; rfl
theorem ext1 (t : ByteArray) {i : Nat} (h : i < t.data.toList.length) : (t.extract i (i + 1)).data.toList = [t.data.toList[i]'h] := by
  rw [ByteArray.data_extract, Array.toList_extract]
  show List.take (i + 1 - i) (List.drop i t.data.toList) = _
  rw [Nat.add_sub_cancel_left, List.drop_eq_getElem_cons h]
  rfl
theorem ext1s (t : ByteArray) {i : Nat} (h : i < t.size) : (t.extract i (i + 1)).size = 1 := by rw [ByteArray.size_extract]; omega

theorem sRead_l2 {t hd : ByteArray} {h : Int} {w : Nat} (h1 : 1 ≤ h) (h8 : h ≤ 8) (w1 : 1 ≤ w) (w8 : w ≤ 8) (ht : t.size ≤ 200) (hsz : (t.size : Int) = hd.size + h * (w + 1)) {R : Int × Int × ByteArray × Bool}
    (fin : Ev (fun k => (spec_GridText.f k w h (⟨(collC w 0 (t.data.toList.drop hd.size)).toArray⟩ : ByteArray)).bind fun bt163 => (if bt163.2 = true then (if bt163.1.toList = t.toList then (some ((w : Int), h, (⟨(collC w 0 (t.data.toList.drop hd.size)).toArray⟩ : ByteArray), true)) else (spec_ReadGrid.l1 k t h ((w : Int) + 1))) else (spec_ReadGrid.l1 k t h ((w : Int) + 1)))) R) (d : Nat) :
    ∀ (i : Nat) (acc : ByteArray), (i : Int) + d = h * (w + 1) → acc.data.toList ++ collC w (i % (w + 1)) (t.data.toList.drop (hd.size + i)) = collC w 0 (t.data.toList.drop hd.size) → acc.size ≤ i → Ev (fun k => spec_ReadGrid.l2 k t h w hd i w h acc) R := by
  have b : h * ((w : Int) + 1) ≤ 8 * 9 := Int.mul_le_mul (by omega) (by omega) (by omega) (by omega)
  have ew : wrap64 ((w : Int) + 1) = (w : Int) + 1 := w64 (by omega) (by omega)
  have en : wrap64 (h * ((w : Int) + 1)) = h * ((w : Int) + 1) := by
    have : 0 ≤ h * ((w : Int) + 1) := Int.mul_nonneg (by omega) (by omega)
    exact w64 (by omega) (by omega)
  have hT := sz_toList t
  obtain ⟨N, hN⟩ : ∃ N : Int, h * ((w : Int) + 1) = N := ⟨_, rfl⟩
  rw [hN] at b en hsz
  rw [hN]
  induction d with
  | zero =>
    intro i acc hi ha hs
    have hlt : ¬ (i : Int) < N := by omega
    rw [List.drop_eq_nil_of_le (by rw [hT]; omega)] at ha
    have e : collC w (i % (w + 1)) [] = [] := by cases i % (w + 1) <;> rfl
    rw [e, List.append_nil] at ha
    have ea : acc = (⟨(collC w 0 (t.data.toList.drop hd.size)).toArray⟩ : ByteArray) := by rw [← ha]
    refine Ev.step (fun k => ?_) fin
    rw [spec_ReadGrid.l2, ew, hN, en, if_neg hlt, ea]
  | succ d ih =>
    intro i acc hi ha hs
    have hin : hd.size + i < t.size := by omega
    have f1 : (i : Int) < N := by omega
    have f2 : ¬ ((w : Int) + 1 = 0) := by omega
    have f4 : (0 : Int) ≤ ((hd.size + i : Nat) : Int) := by omega
    have f5 : ((hd.size + i : Nat) : Int) ≤ ((hd.size + i + 1 : Nat) : Int) := by omega
    have f6 : ((hd.size + i + 1 : Nat) : Int) ≤ (t.size : Int) := by omega
    have f7 : acc.size + 1 ≤ 9223372036854775807 := by omega
    have f8 : ((i + 1 : Nat) : Int) + (d : Int) = N := by omega
    have f9 : (t.extract (hd.size + i) (hd.size + i + 1)).size = 1 := ext1s t hin
    have e5 : wrap64 ((hd.size : Int) + (i : Int)) = ((hd.size + i : Nat) : Int) := wadd (Nat.le_trans (Nat.le_of_lt hin) (Nat.le_trans ht (by decide)))
    have e6 : wrap64 (((hd.size + i : Nat) : Int) + 1) = ((hd.size + i + 1 : Nat) : Int) := wadd (a := hd.size + i) (b := 1) (Nat.le_trans hin (Nat.le_trans ht (by decide)))
    have e3 : wrap64 ((i : Int) + 1) = ((i + 1 : Nat) : Int) := wadd (a := i) (b := 1) (Nat.le_trans (Nat.le_trans (Nat.succ_le_succ (Nat.le_add_left i hd.size)) hin) (Nat.le_trans ht (by decide)))
    have em : Int.tmod (i : Int) ((w : Int) + 1) = ((i % (w + 1) : Nat) : Int) := by
      rw [show ((w : Int) + 1) = ((w + 1 : Nat) : Int) from rfl]
      exact (Int.ofNat_tmod i (w + 1)).symm
    have hdrop : t.data.toList.drop (hd.size + i) = (t.data.toList[hd.size + i]'(by rw [hT]; exact hin)) :: t.data.toList.drop (hd.size + (i + 1)) := by
      rw [← Nat.add_assoc]
      exact List.drop_eq_getElem_cons (by rw [hT]; exact hin)
    rw [hdrop] at ha
    rcases bmod i w with ⟨c, e⟩ | ⟨c, e⟩
    · have ex : (t.extract (hd.size + i) (hd.size + i + 1)).data.toList = [t.data.toList[hd.size + i]'(by rw [hT]; exact hin)] := ext1 t _
      have hrec := ih (i + 1) (acc ++ t.extract (hd.size + i) (hd.size + i + 1)) f8 (by
        rw [ByteArray.data_append, Array.toList_append, ex, e, List.append_assoc, ← ha]
        show _ ++ (_ :: _) = _ ++ (if i % (w + 1) < w then _ else _)
        rw [if_pos c]
        rfl) (by rw [ByteArray.size_append, f9]; exact Nat.succ_le_succ hs)
      refine Ev.step (fun k => ?_) hrec
      rw [spec_ReadGrid.l2, ew, hN, en, if_pos f1, if_neg f2, em, if_pos (Int.ofNat_lt.2 c), e5, e6, if_pos f4, if_pos f5, if_pos f6, Int.toNat_natCast, Int.toNat_natCast, f9, if_pos f7, e3]
    · have hrec := ih (i + 1) acc f8 (by
        rw [e, ← ha]
        show _ = _ ++ (if i % (w + 1) < w then _ else _)
        rw [if_neg c]) (Nat.le_succ_of_le hs)
      refine Ev.step (fun k => ?_) hrec
      rw [spec_ReadGrid.l2, ew, hN, en, if_pos f1, if_neg f2, em, if_neg (fun hh => c (Int.ofNat_lt.1 hh)), e3]

/-- one pair of sides is tried -/
def Found (t : ByteArray) (f : Nat → Option (Int × Int × ByteArray × Bool)) : Prop := ∃ r, Ev f r ∧ readIs t r
theorem Found.step {t : ByteArray} {f g : Nat → Option (Int × Int × ByteArray × Bool)} (h : Found t f) (e : ∀ k, g (k + 1) = f k) : Found t g := by
  obtain ⟨r, hr, hi⟩ := h
  exact ⟨r, Ev.step e hr, hi⟩

theorem tlist {a b : ByteArray} : a.toList = b.toList ↔ a = b := ⟨fun e => by
  rw [ByteArray.toList_eq, ByteArray.toList_eq] at e
  exact ByteArray.ext (Array.toList_inj.1 e), fun e => by rw [e]⟩

theorem sRead_at (t : ByteArray) (ht : t.size ≤ 200) {h : Int} {w : Nat} (h1 : 1 ≤ h) (h8 : h ≤ 8) (w1 : 1 ≤ w) (w8 : w ≤ 8)
    (next : (∀ c, gridOk w h c = true → t ≠ gridT w h c) → Found t (fun k => spec_ReadGrid.l1 k t h (((w + 1 : Nat)) : Int))) : Found t (fun k => spec_ReadGrid.l1 k t h w) := by
  have zh := dec_size h1 h8
  have zw := dec_size (n := (w : Int)) (by omega) (by omega)
  have hdz := head_size (dec h) (dec (w : Int))
  have b : h * ((w : Int) + 1) ≤ 8 * 9 := Int.mul_le_mul (by omega) (by omega) (by omega) (by omega)
  have b0 : 0 ≤ h * ((w : Int) + 1) := Int.mul_nonneg (by omega) (by omega)
  have ew : wrap64 ((w : Int) + 1) = (((w + 1 : Nat)) : Int) := by rw [w64 (by omega) (by omega)]; omega
  have en : wrap64 (h * (((w + 1 : Nat)) : Int)) = h * ((w : Int) + 1) := w64 (by show _ ≤ h * ((w : Int) + 1); omega) (by show h * ((w : Int) + 1) ≤ _; omega)
  have es : wrap64 (((headT (dec h) (dec (w : Int))).size : Int) + h * ((w : Int) + 1)) = ((headT (dec h) (dec (w : Int))).size : Int) + h * ((w : Int) + 1) := w64 (by omega) (by omega)
  have hgrid : ∀ c, gridOk w h c = true → t = gridT w h c → (t.size : Int) = ((headT (dec h) (dec (w : Int))).size : Int) + h * ((w : Int) + 1) ∧ t.extract 0 (headT (dec h) (dec (w : Int))).size = headT (dec h) (dec (w : Int)) ∧ (⟨(collC w 0 (t.data.toList.drop (headT (dec h) (dec (w : Int))).size)).toArray⟩ : ByteArray) = c := fun c g e => by
    have gs := (grid_size g).1
    rw [← e] at gs
    refine ⟨by omega, by rw [e]; exact ByteArray.extract_append_eq_left rfl, ?_⟩
    have ed : t.data.toList.drop (headT (dec h) (dec (w : Int))).size = (rowsT c w h.toNat 0).data.toList := by
      rw [e]
      show (headT (dec h) (dec (w : Int)) ++ rowsT c w h.toNat 0).data.toList.drop _ = _
      rw [ByteArray.data_append, Array.toList_append, List.drop_left' (sz_toList _)]
    have hc := collC_rows g h.toNat 0 (by omega)
    rw [show ((0 : Nat) : Int) = 0 from rfl, Int.zero_mul, show (w : Int).toNat = w from Int.toNat_natCast w] at hc
    rw [ed, hc]
    show (⟨(c.extract 0 c.size).data.toList.toArray⟩ : ByteArray) = c
    rw [ByteArray.extract_zero_size]
  -- the walk as far as the test
  have walk : ∀ r, Ev (fun k => if (t.size : Int) = (((headT (dec h) (dec (w : Int))).size : Int) + h * ((w : Int) + 1)) then (if (0 : Int) ≤ ((headT (dec h) (dec (w : Int))).size : Int) then (if ((headT (dec h) (dec (w : Int))).size : Int) ≤ (t.size : Int) then (spec_ReadGrid.j2 k t h w (headT (dec h) (dec (w : Int))) ((t.extract 0 (headT (dec h) (dec (w : Int))).size).toList != (headT (dec h) (dec (w : Int))).toList)) else (none)) else (none)) else (spec_ReadGrid.j2 k t h w (headT (dec h) (dec (w : Int))) true)) r → Ev (fun k => spec_ReadGrid.l1 k t h w) r := fun r hr => by
    refine Ev.step (fun k => by rw [spec_ReadGrid.l1, if_pos (by omega)]) (Ev.bind (dec_ev h1 h8) ?_)
    refine Ev.congr (fun k => by rw [if_pos (by omega), if_pos (by rw [ByteArray.size_append, size7a]; omega)]) (Ev.bind (dec_ev (n := (w : Int)) (by omega) (by omega)) ?_)
    refine Ev.congr (fun k => ?_) hr
    rw [if_pos (by simp only [ByteArray.size_append, size7a, size7b]; omega), if_pos (by simp only [ByteArray.size_append, size7a, size7b]; omega)]
    show (if (t.size : Int) = wrap64 (((headT (dec h) (dec (w : Int))).size : Int) + wrap64 (h * wrap64 ((w : Int) + 1))) then _ else _) = _
    rw [ew, en, es]
    rfl
  have skip : (∀ c, gridOk w h c = true → t ≠ gridT w h c) → Found t (fun k => spec_ReadGrid.j2 k t h w (headT (dec h) (dec (w : Int))) true) := fun hn => (next hn).step (fun k => by rw [spec_ReadGrid.j2, if_pos rfl, ew])
  by_cases cs : (t.size : Int) = (((headT (dec h) (dec (w : Int))).size : Int) + h * ((w : Int) + 1))
  · by_cases ce : t.extract 0 (headT (dec h) (dec (w : Int))).size = headT (dec h) (dec (w : Int))
    · -- the cells are read
      have htext := sText w h (⟨(collC w 0 (t.data.toList.drop (headT (dec h) (dec (w : Int))).size)).toArray⟩ : ByteArray)
      have hl2 : ∀ r, Ev (fun k => (spec_GridText.f k w h (⟨(collC w 0 (t.data.toList.drop (headT (dec h) (dec (w : Int))).size)).toArray⟩ : ByteArray)).bind fun bt163 => (if bt163.2 = true then (if bt163.1.toList = t.toList then (some ((w : Int), h, (⟨(collC w 0 (t.data.toList.drop (headT (dec h) (dec (w : Int))).size)).toArray⟩ : ByteArray), true)) else (spec_ReadGrid.l1 k t h ((w : Int) + 1))) else (spec_ReadGrid.l1 k t h ((w : Int) + 1)))) r → Ev (fun k => spec_ReadGrid.l1 k t h w) r := fun r hr => by
        have h0 := sRead_l2 h1 h8 w1 w8 ht cs hr (h * ((w : Int) + 1)).toNat 0 (⟨#[]⟩ : ByteArray) (by omega) (by rw [Nat.zero_mod, Nat.add_zero]; rfl) (Nat.le_refl _)
        rw [show ((0 : Nat) : Int) = 0 from rfl] at h0
        refine walk r (Ev.congr (fun k => by rw [if_pos cs, if_pos (by omega), if_pos (by omega), ce, bne_self_eq_false]) ?_)
        exact Ev.step (fun k => by rw [spec_ReadGrid.j2, if_neg (by simp)]) h0
      generalize hcs : (⟨(collC w 0 (t.data.toList.drop (headT (dec h) (dec (w : Int))).size)).toArray⟩ : ByteArray) = C at htext hl2 hgrid
      cases g : gridOk w h C with
      | false =>
        rw [g, if_neg (by simp)] at htext
        obtain ⟨r, hr, hi⟩ := next (fun c g' e => by
          have q := (hgrid c g' e).2.2
          rw [q, g'] at g
          cases g)
        exact ⟨r, hl2 r (Ev.bind htext (Ev.congr (fun k => by dsimp only; rw [if_neg (by simp)]; rfl) hr)), hi⟩
      | true =>
        rw [g, if_pos rfl] at htext
        by_cases e : gridT w h C = t
        · exact ⟨_, hl2 _ (Ev.bind htext (Ev.of_eq fun k => by dsimp only; rw [if_pos rfl, if_pos (tlist.2 e)])), .inl ⟨w, h, C, g, e.symm, rfl⟩⟩
        · obtain ⟨r, hr, hi⟩ := next (fun c g' e' => by
            have q := (hgrid c g' e').2.2
            rw [q] at e
            exact e e'.symm)
          exact ⟨r, hl2 r (Ev.bind htext (Ev.congr (fun k => by dsimp only; rw [if_pos rfl, if_neg (fun hh => e (tlist.1 hh))]; rfl) hr)), hi⟩
    · obtain ⟨r, hr, hi⟩ := skip (fun c g e => ce (hgrid c g e).2.1)
      refine ⟨r, walk r (Ev.congr (fun k => by rw [if_pos cs, if_pos (by omega), if_pos (by omega), bne_iff_ne.2 (fun hh => ce (tlist.1 hh))]) hr), hi⟩
  · obtain ⟨r, hr, hi⟩ := skip (fun c g e => cs (hgrid c g e).1)
    exact ⟨r, walk r (Ev.congr (fun k => by rw [if_neg cs]) hr), hi⟩

theorem sRead_l1 (t : ByteArray) (ht : t.size ≤ 200) {h : Int} (h1 : 1 ≤ h) (h8 : h ≤ 8) (after : (∀ w' h' c', gridOk w' h' c' = true → t = gridT w' h' c' → h + 1 ≤ h') → Found t (fun k => spec_ReadGrid.l0 k t (h + 1))) (e : Nat) :
    ∀ w : Nat, w + e = 9 → 1 ≤ w → (∀ w' h' c', gridOk w' h' c' = true → t = gridT w' h' c' → h < h' ∨ (h = h' ∧ (w : Int) ≤ w')) → Found t (fun k => spec_ReadGrid.l1 k t h w) := by
  induction e with
  | zero =>
    intro w hw w1 hk
    refine (after (fun w' h' c' g e => ?_)).step (fun k => by rw [spec_ReadGrid.l1, if_neg (by omega), w64 (by omega) (by omega)])
    have := hk w' h' c' g e
    have := (gridOk_side g).2.1
    omega
  | succ e ih =>
    intro w hw w1 hk
    refine sRead_at t ht h1 h8 w1 (by omega) (fun hn => ih (w + 1) (by omega) (by omega) (fun w' h' c' g e => ?_))
    rcases hk w' h' c' g e with q | ⟨q1, q2⟩
    · exact .inl q
    · refine .inr ⟨q1, ?_⟩
      have : w' ≠ (w : Int) := fun hh => by
        subst q1
        rw [hh] at g e
        exact hn c' g e
      omega

theorem sRead_l0 (t : ByteArray) (ht : t.size ≤ 200) (d : Nat) : ∀ h : Int, h + d = 9 → 1 ≤ h → (∀ w' h' c', gridOk w' h' c' = true → t = gridT w' h' c' → h ≤ h') → Found t (fun k => spec_ReadGrid.l0 k t h) := by
  induction d with
  | zero =>
    intro h hd h1 hk
    refine ⟨_, Ev.step (f := fun _ => some (0, 0, (⟨#[]⟩ : ByteArray), false)) (fun k => by rw [spec_ReadGrid.l0, if_neg (by omega)]) (Ev.now _), .inr ⟨fun w' h' c' g e => ?_, rfl⟩⟩
    have := hk w' h' c' g e
    have := (gridOk_side g).2.2.2.1
    omega
  | succ d ih =>
    intro h hd h1 hk
    have h0 := sRead_l1 t ht h1 (by omega) (fun hk' => ih (h + 1) (by omega) (by omega) hk') 8 1 (by omega) (Nat.le_refl _) (fun w' h' c' g e => by
      have a := hk w' h' c' g e
      have b := (gridOk_side g).1
      omega)
    exact h0.step (fun k => by rw [spec_ReadGrid.l0, if_pos (by omega)]; rfl)

theorem sReadGrid (t : ByteArray) : ∃ r, Ev (fun k => spec_ReadGrid.f k t) r ∧ readIs t r := by
  by_cases hbig : (t.size : Int) > 200
  · refine ⟨_, Ev.of_eq fun k => by unfold spec_ReadGrid.f; rw [if_pos hbig], .inr ⟨fun w h c g e => ?_, rfl⟩⟩
    have := (grid_size g).2
    rw [← e] at this
    omega
  · obtain ⟨r, hr, hi⟩ := sRead_l0 t (by omega) 8 1 (by omega) (by omega) (fun w' h' c' g e => (gridOk_side g).2.2.1)
    exact ⟨r, Ev.congr (fun k => by unfold spec_ReadGrid.f; rw [if_neg hbig]) hr, hi⟩

theorem readIs.unique {t : ByteArray} {r s : Int × Int × ByteArray × Bool} (hr : readIs t r) (hs : readIs t s) : r = s := by
  rcases hr with ⟨w, h, c, g, e, rfl⟩ | ⟨hn, rfl⟩
  · rcases hs with ⟨w', h', c', g', e', rfl⟩ | ⟨hn', _⟩
    · have a := iReadGrid_of g
      have b := iReadGrid_of g'
      rw [← e] at a
      rw [← e'] at b
      exact Ev.uniq a b
    · exact absurd e (hn' w h c g)
  · rcases hs with ⟨w', h', c', g', e', _⟩ | ⟨_, rfl⟩
    · exact absurd e' (hn w' h' c' g')
    · rfl

end Go.Proofs.YtkaffmlppfppeaaDoor.QFnExactReadGrid

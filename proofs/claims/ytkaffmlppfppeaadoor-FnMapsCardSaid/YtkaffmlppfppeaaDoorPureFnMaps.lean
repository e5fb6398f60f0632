/- A drawn map's text is told and read back, and walling some of its free cells takes these and no other. -/
import Derived.Test.YtkaffmlppfppeaaDoorPFnMapsx0
import Derived.Test.YtkaffmlppfppeaaDoorPFnMapsx1
import Derived.Test.YtkaffmlppfppeaaDoorPFnMapsx2
import Derived.Test.YtkaffmlppfppeaaDoorPFnMapsx3
import Derived.Test.YtkaffmlppfppeaaDoorPFnMapsx4
import Derived.Test.YtkaffmlppfppeaaDoorPFnMapsx5
import Derived.Test.YtkaffmlppfppeaaDoorPFnMapsx6
import Derived.Test.YtkaffmlppfppeaaDoorPFnMapsx7
import Derived.Test.YtkaffmlppfppeaaDoorPFnMapsx8
import Derived.Test.YtkaffmlppfppeaaDoorPFnMapsx9
import Derived.Test.YtkaffmlppfppeaaDoorPFnMapsx10
import Derived.Test.YtkaffmlppfppeaaDoorMBase
import Derived.Laws.BitsLemmas
import Derived.Laws.BytesArg
import Derived.Test.YtkaffmlppfppeaaDoorMLists
import Derived.Test.YtkaffmlppfppeaaDoorMGrid
section
section
namespace Go.Proofs.YtkaffmlppfppeaaDoor.PFnMaps
open Go.RowKit Go.Proofs.YtkaffmlppfppeaaDoorW.PrintWords Go.Proofs.YtkaffmlppfppeaaDoorW.PrintLast Go.Proofs.YtkaffmlppfppeaaDoorW.PrintMore
attribute [local go_sem] max2_int min2_int max_two min_two max_three min_three max_four min_four   -- for this text's walks alone
set_option linter.unusedVariables false
set_option linter.unusedSimpArgs false

end Go.Proofs.YtkaffmlppfppeaaDoor.PFnMaps
end

section
namespace Go.Proofs.YtkaffmlppfppeaaDoor.MDraw
open Go.RowKit Go.Proofs.YtkaffmlppfppeaaDoorW.PrintWords Go.Proofs.YtkaffmlppfppeaaDoor.MBase
set_option linter.unusedVariables false

theorem and255 (x : Int) : 0 ≤ bits .and .i64 x 255 ∧ bits .and .i64 x 255 ≤ 255 := by
  have e : (BitVec.ofInt 64 255).toNat = 255 := by decide
  have h0 : bits .and .i64 x 255 = IntKind.i64.wrap (((BitVec.ofInt 64 x &&& BitVec.ofInt 64 255 : BitVec 64).toNat : Nat) : Int) := rfl
  have h := Nat.and_le_right (n := (BitVec.ofInt 64 x).toNat) (m := 255)
  rw [h0, BitVec.toNat_and, e, IntKind.wrap_i64]
  omega

theorem strNums_bt (xs : List Int) (i : Nat) (hi : i < xs.length) (h0 : 0 ≤ xs.getD i 0) (h1 : xs.getD i 0 < 256) : bt (strOfNums xs) i = xs.getD i 0 := by
  have hs := strOfNums_size xs
  unfold bt
  rw [dif_pos (by rw [Int.toNat_natCast, hs]; exact hi)]
  rw [List.getD_eq_getElem?_getD, List.getElem?_eq_getElem hi] at h0 h1 ⊢
  simp only [Option.getD_some] at h0 h1 ⊢
  simp only [strOfNums, Int.toNat_natCast, ByteArray.getElem_eq_getElem_data, List.getElem_toArray, List.getElem_map]
  rw [UInt8.toNat_ofNat_of_lt' (show (xs[i]).toNat < 256 by omega)]
  omega

theorem tmod_lt {x n : Int} (h0 : 0 ≤ x) (hn : 0 < n) : 0 ≤ Int.tmod x n ∧ Int.tmod x n < n := by
  rw [Int.tmod_eq_emod_of_nonneg h0]
  exact ⟨Int.emod_nonneg _ (by omega), Int.emod_lt_of_pos _ hn⟩

theorem getD_mem' {xs : List Int} {j : Nat} (hj : j < xs.length) : xs.getD j 0 ∈ xs := by
  rw [List.getD_eq_getElem?_getD, List.getElem?_eq_getElem hj]
  exact List.getElem_mem hj
end Go.Proofs.YtkaffmlppfppeaaDoor.MDraw
end

section
namespace Go.Proofs.YtkaffmlppfppeaaDoor.MSteps
open Go.RowKit Go.Proofs.YtkaffmlppfppeaaDoorW.PrintWords Go.Proofs.YtkaffmlppfppeaaDoor.MBase Go.Proofs.YtkaffmlppfppeaaDoor.MLists
set_option linter.unusedVariables false

def Cell (n : Nat) (x : Int) : Prop := 0 ≤ x ∧ x < n

theorem rd_at (d : List Int) (x : Int) : rd d x = d.getD x.toNat 0 := rfl

theorem rd_set {n : Nat} {d : List Int} (hl : d.length = n) {x y : Int} (hx : Cell n x) (hy : Cell n y) (v : Int) : rd (d.set y.toNat v) x = if x = y then v else rd d x := by
  have h0 := hx.1; have h1 := hx.2; have h2 := hy.1; have h3 := hy.2
  rw [rd_at, rd_at, getD_set d _ _ _ _ (by omega)]
  by_cases h : x = y
  · rw [if_pos h, if_pos (by rw [h])]
  · rw [if_neg h, if_neg (by omega)]

structure Base (n : Nat) (A : Int → List Int) (S : Int → Prop) (d : List Int) : Prop where
  len : d.length = n
  lo : ∀ x, Cell n x → -1 ≤ rd d x
  src : ∀ x, Cell n x → (rd d x = 0 ↔ S x)
  pred : ∀ y, Cell n y → 0 < rd d y → ∃ x, Cell n x ∧ y ∈ A x ∧ rd d x = rd d y - 1

def Done (A : Int → List Int) (d : List Int) (x : Int) : Prop := ∀ y, y ∈ A x → 0 ≤ rd d y ∧ rd d y ≤ rd d x + 1

structure Lab (n : Nat) (A : Int → List Int) (S : Int → Prop) (d : List Int) : Prop extends Base n A S d where
  edge : ∀ x, Cell n x → 0 ≤ rd d x → Done A d x

theorem Base.keep {n : Nat} {A : Int → List Int} {S : Int → Prop} {d : List Int} (b : Base n A S d) {y z : Int} (hy : Cell n y) (hyd : rd d y < 0) (hz : Cell n z) (hzd : 0 ≤ rd d z) (v : Int) : rd (d.set y.toNat v) z = rd d z := by
  rw [rd_set b.len hz hy, if_neg]
  intro h
  rw [h] at hzd
  omega

theorem Base.set {n : Nat} {A : Int → List Int} {S : Int → Prop} {d : List Int} (b : Base n A S d) {x y : Int} (hx : Cell n x) (hxd : 0 ≤ rd d x) (hyA : y ∈ A x) (hy : Cell n y) (hyd : rd d y < 0) : Base n A S (d.set y.toNat (rd d x + 1)) where
  len := by rw [List.length_set]; exact b.len
  lo := by
    intro z hz
    rw [rd_set b.len hz hy]
    split
    · omega
    · exact b.lo z hz
  src := by
    intro z hz
    rw [rd_set b.len hz hy]
    split
    · rename_i h
      subst h
      have := b.src z hz
      constructor
      · intro h; omega
      · intro h; have := this.2 h; omega
    · exact b.src z hz
  pred := by
    intro z hz
    rw [rd_set b.len hz hy]
    split
    · rename_i h
      subst h
      intro _
      exact ⟨x, hx, hyA, by rw [b.keep hy hyd hx hxd]; omega⟩
    · intro h
      obtain ⟨u, hu, hzu, e⟩ := b.pred z hz h
      exact ⟨u, hu, hzu, by rw [b.keep hy hyd hu (by omega)]; exact e⟩

theorem Done.set {n : Nat} {A : Int → List Int} {S : Int → Prop} {d : List Int} (b : Base n A S d) (hA : ∀ x, Cell n x → ∀ y, y ∈ A x → Cell n y) {y z : Int} (hy : Cell n y) (hyd : rd d y < 0) (hz : Cell n z) (hzd : 0 ≤ rd d z) (h : Done A d z) (v : Int) : Done A (d.set y.toNat v) z := by
  intro u hu
  have h1 := h u hu
  have hc := hA z hz u hu
  rw [b.keep hy hyd hc h1.1, b.keep hy hyd hz hzd]
  exact h1

theorem Lab.le {n : Nat} {A : Int → List Int} {S : Int → Prop} {d e : List Int} (a : Base n A S d) (b : Lab n A S e) : ∀ m : Nat, ∀ x, Cell n x → rd d x = m → 0 ≤ rd e x ∧ rd e x ≤ m := by
  intro m
  induction m with
  | zero =>
    intro x hx h
    have hs := (a.src x hx).1 (by rw [h]; rfl)
    rw [(b.src x hx).2 hs]
    omega
  | succ m ih =>
    intro x hx h
    obtain ⟨u, hu, hxu, e1⟩ := a.pred x hx (by omega)
    have h1 := ih u hu (by omega)
    have h2 := b.edge u hu h1.1 x hxu
    omega

theorem Lab.unique {n : Nat} {A : Int → List Int} {S : Int → Prop} {d e : List Int} (a : Lab n A S d) (b : Lab n A S e) : d = e := by
  refine list_eq (by rw [a.len, b.len]) (fun j hj => ?_)
  have hc : Cell n (j : Int) := ⟨by omega, by have := a.len; omega⟩
  have h1 := a.lo j hc
  have h2 := b.lo j hc
  have e1 : rd d (j : Int) = rd e (j : Int) := by
    rcases Int.lt_or_le (rd d (j : Int)) 0 with hd | hd
    · rcases Int.lt_or_le (rd e (j : Int)) 0 with he | he
      · omega
      · have := Lab.le b.toBase a (rd e (j : Int)).toNat j hc (by omega)
        omega
    · have h3 := Lab.le a.toBase b (rd d (j : Int)).toNat j hc (by omega)
      have h4 := Lab.le b.toBase a (rd e (j : Int)).toNat j hc (by omega)
      omega
  rw [rd_at, rd_at, Int.toNat_natCast, List.getD_eq_getElem?_getD, List.getD_eq_getElem?_getD] at e1
  have hj2 : j < e.length := by rw [b.len, ← a.len]; exact hj
  rw [List.getElem?_eq_getElem hj, List.getElem?_eq_getElem hj2] at e1 ⊢
  rw [show d[j] = e[j] from e1]

/-- a labelling has no label as great as the number of the cells -/
theorem Base.small {n : Nat} {A : Int → List Int} {S : Int → Prop} {d : List Int} (b : Base n A S d) (x : Int) (hx : Cell n x) : rd d x < n := by
  rcases Int.lt_or_le (rd d x) n with h | h
  · exact h
  exfalso
  have each : ∀ t : Nat, ∀ x, Cell n x → rd d x = t → ∀ m : Nat, m ≤ t → ∃ u : Nat, u < n ∧ rd d (u : Int) = m := by
    intro t
    induction t with
    | zero => intro x hx he m hm; exact ⟨x.toNat, by have := hx.1; have := hx.2; omega, by rw [show ((x.toNat : Nat) : Int) = x by have := hx.1; omega, he]; omega⟩
    | succ t ih =>
      intro x hx he m hm
      rcases Nat.lt_or_ge m (t + 1) with hlt | hge
      · obtain ⟨u, hu, _, e1⟩ := b.pred x hx (by omega)
        exact ih u hu (by omega) m (by omega)
      · exact ⟨x.toNat, by have := hx.1; have := hx.2; omega, by rw [show ((x.toNat : Nat) : Int) = x by have := hx.1; omega, he]; omega⟩
  have cnt : ∀ m : Nat, (m : Int) ≤ rd d x + 1 → (m : Int) ≤ sumTo n (fun i => if 0 ≤ rd d (i : Int) ∧ rd d (i : Int) < m then 1 else 0) := by
    intro m
    induction m with
    | zero => intro _; exact sumTo_nonneg (fun i _ => by split <;> omega)
    | succ m ih =>
      intro hm
      have h1 := ih (by omega)
      obtain ⟨u, hu, e1⟩ := each (rd d x).toNat x hx (by omega) m (by omega)
      have h2 : sumTo n (fun i => if 0 ≤ rd d (i : Int) ∧ rd d (i : Int) < ((m + 1 : Nat) : Int) then 1 else 0) = sumTo n (fun i => (if 0 ≤ rd d (i : Int) ∧ rd d (i : Int) < m then 1 else 0) + (if rd d (i : Int) = m then 1 else 0)) :=
        sumTo_congr (fun i _ => by
          by_cases c1 : rd d (i : Int) = m
          · rw [if_pos (by omega), if_neg (by omega), if_pos c1]; rfl
          · by_cases c2 : 0 ≤ rd d (i : Int) ∧ rd d (i : Int) < m
            · rw [if_pos (by omega), if_pos c2, if_neg c1]; rfl
            · rw [if_neg (by omega), if_neg c2, if_neg c1]; rfl)
      rw [h2, sumTo_add]
      have h3 : sumTo n (fun i => if i = u then (1 : Int) else 0) = 1 := sumTo_one (fun _ => 1) u hu
      have h4 : sumTo n (fun i => if i = u then (1 : Int) else 0) ≤ sumTo n (fun i => if rd d (i : Int) = m then 1 else 0) := sumTo_mono (fun i _ => by
        by_cases c : i = u
        · subst c; rw [if_pos rfl, if_pos e1]; omega
        · rw [if_neg c]; split <;> omega)
      omega
  have top := cnt (n + 1) (by omega)
  have bd := (sumTo_bound (n := n) (f := fun i => if 0 ≤ rd d (i : Int) ∧ rd d (i : Int) < ((n + 1 : Nat) : Int) then 1 else 0) (B := 1) (by omega) (fun i _ => by split <;> omega)).2
  omega

/-- how many cells have no label yet -/
def bare (n : Nat) (d : List Int) : Int := sumTo n (fun i => if rd d (i : Int) < 0 then 1 else 0)

theorem bare_nonneg (n : Nat) (d : List Int) : 0 ≤ bare n d := sumTo_nonneg (fun i _ => by split <;> omega)

theorem bare_le (n : Nat) (d : List Int) : bare n d ≤ n := by
  have := (sumTo_bound (n := n) (f := fun i => if rd d (i : Int) < 0 then 1 else 0) (B := 1) (by omega) (fun i _ => by split <;> omega)).2
  unfold bare
  omega

theorem bare_set {n : Nat} {d : List Int} (hl : d.length = n) {y : Int} (hy : Cell n y) (hyd : rd d y < 0) {v : Int} (hv : 0 ≤ v) : bare n (d.set y.toNat v) = bare n d - 1 := by
  have h0 := hy.1; have h1 := hy.2
  have h3 : sumTo n (fun i => if i = y.toNat then (1 : Int) else 0) = 1 := sumTo_one (fun _ => 1) y.toNat (by omega)
  have h2 : bare n (d.set y.toNat v) = sumTo n (fun i => (if rd d (i : Int) < 0 then 1 else 0) - (if i = y.toNat then (1 : Int) else 0)) :=
    sumTo_congr (fun i hi => by
      rw [rd_set hl ⟨by omega, by omega⟩ hy]
      by_cases c : (i : Int) = y
      · rw [if_pos c, if_neg (by omega), c, if_pos hyd, if_pos (by omega)]; rfl
      · rw [if_neg c, if_neg (show ¬ i = y.toNat by omega), Int.sub_zero])
  rw [h2, sumTo_sub, h3]
  rfl
end Go.Proofs.YtkaffmlppfppeaaDoor.MSteps
end

namespace Go.Proofs.YtkaffmlppfppeaaDoor.QFnMaps
open Go.RowKit Go.Proofs.YtkaffmlppfppeaaDoor.PFnMaps Go.Proofs.YtkaffmlppfppeaaDoorW.PrintWords Go.Proofs.YtkaffmlppfppeaaDoorW.PrintLast Go.Proofs.YtkaffmlppfppeaaDoorW.PrintMore Go.Proofs.YtkaffmlppfppeaaDoor.MBase Go.Proofs.YtkaffmlppfppeaaDoor.MDraw Go.Proofs.YtkaffmlppfppeaaDoor.MGrid Go.Proofs.YtkaffmlppfppeaaDoor.MLists Go.Proofs.YtkaffmlppfppeaaDoor.MSteps
set_option linter.unusedVariables false
set_option linter.unusedSimpArgs false

/-! the cursor of a draw: each number that it gives lies below what was asked -/
theorem new_l0 (b : List Int) (m : Nat) : ∀ (j : Nat) (h : Int), j + m = 4000 → ∃ h', Ev (fun k => spec_l01New.l0 k b h j) (b, 0, h') := by
  induction m with
  | zero =>
    intro j h hj
    refine ⟨h, Ev.step (f := fun _ => some (b, 0, h)) (fun k => ?_) (Ev.now _)⟩
    by_cases hl : (j : Int) < b.length
    · rw [spec_l01New.l0, if_pos hl, if_neg (by omega)]
    · rw [spec_l01New.l0, if_neg hl]
  | succ m ih =>
    intro j h hj
    by_cases hl : (j : Int) < b.length
    · obtain ⟨h', e⟩ := ih (j + 1) (bits .and .i64 (wrap64 ((wrap64 ((wrap64 (h * 131)) + (wrap64 (rd b (j : Int))))) + 7)) 1073741823) (by omega)
      have hw3 : wrap64 ((j : Int) + 1) = ((j + 1 : Nat) : Int) := by rw [w64 (by omega) (by omega)]; omega
      exact ⟨h', Ev.step (fun k => by rw [spec_l01New.l0, if_pos hl, if_pos (by omega), if_pos (by omega), hw3]) e⟩
    · exact ⟨h, Ev.step (f := fun _ => some (b, 0, h)) (fun k => by rw [spec_l01New.l0, if_neg hl]) (Ev.now _)⟩

theorem new_ev (b : List Int) : ∃ h, Ev (fun k => spec_l01New.f k b) (b, 0, h) := new_l0 b 4000 0 _ (by omega)

theorem byte_ok (b : List Int) (hb : b.length ≤ maxLen) (i h : Int) (hi : 0 ≤ i) : ∃ x i' h', spec_l01Byte.f b i h = some (x, i', h') ∧ 0 ≤ x ∧ x ≤ 255 ∧ 0 ≤ i' := by
  unfold spec_l01Byte.f
  unfold maxLen at hb
  by_cases hl : i < b.length
  · rw [if_pos hl, if_pos hi]
    exact ⟨_, _, _, rfl, (and255 _).1, (and255 _).2, by rw [w64 (by omega) (by omega)]; omega⟩
  · rw [if_neg hl]
    exact ⟨_, _, _, rfl, (and255 _).1, (and255 _).2, hi⟩

theorem below_ok (b : List Int) (hb : b.length ≤ maxLen) (i h : Int) (hi : 0 ≤ i) (n : Int) : ∃ x i' h', spec_l01Below.f b i h n = some (x, i', h') ∧ 0 ≤ x ∧ (0 < n → x < n) ∧ (n ≤ 0 → x = 0) ∧ 0 ≤ i' := by
  unfold spec_l01Below.f
  by_cases h0 : n ≤ 0
  · rw [if_pos h0]
    exact ⟨0, i, h, rfl, Int.le_refl _, fun hh => by omega, fun _ => rfl, hi⟩
  have hn : ¬ n = 0 := by omega
  by_cases h1 : n ≤ 256
  · obtain ⟨x, i', h', e, x0, x1, hi'⟩ := byte_ok b hb i h hi
    have t := tmod_lt x0 (show 0 < n by omega)
    exact ⟨Int.tmod x n, i', h', by rw [if_neg h0, if_pos h1, e, Option.bind_some, if_neg hn], t.1, fun _ => t.2, fun hh => by omega, hi'⟩
  · obtain ⟨x, i1, h1', e1, x0, x1, hi1⟩ := byte_ok b hb i h hi
    obtain ⟨y, i2, h2', e2, y0, y1, hi2⟩ := byte_ok b hb i1 h1' hi1
    obtain ⟨z, i3, h3', e3, z0, z1, hi3⟩ := byte_ok b hb i2 h2' hi2
    obtain ⟨u, i4, h4', e4, u0, u1, hi4⟩ := byte_ok b hb i3 h3' hi3
    have hv : 0 ≤ wrap64 ((wrap64 ((wrap64 ((wrap64 (x * 16777216)) + (wrap64 (y * 65536)))) + (wrap64 (z * 256)))) + u) := by
      rw [w64 (x := x * 16777216) (by omega) (by omega), w64 (x := y * 65536) (by omega) (by omega), w64 (x := z * 256) (by omega) (by omega), w64 (x := x * 16777216 + y * 65536) (by omega) (by omega), w64 (x := x * 16777216 + y * 65536 + z * 256) (by omega) (by omega), w64 (by omega) (by omega)]
      omega
    have t := tmod_lt hv (show 0 < n by omega)
    exact ⟨_, i4, h4', by rw [if_neg h0, if_neg h1, e1, Option.bind_some, e2, Option.bind_some, e3, Option.bind_some, e4, Option.bind_some, if_neg hn], t.1, fun _ => t.2, fun hh => by omega, hi4⟩

/-! spec.l02Sized and spec.l02Right: a right map -/
theorem sized_l0 (b : List Int) (hb : b.length ≤ maxLen) (w h : Int) (N : Nat) (hN : N ≤ 64) (hwh : wrap64 (w * h) = N) (m : Nat) : ∀ (j : Nat) (acc : List Int) (i hh : Int), j + m = N → acc.length = j → (∀ z, z ∈ acc → 0 ≤ z ∧ z < 256 ∧ cellOk z = true) → 0 ≤ i →
    ∃ (xs : List Int) (i' h' : Int), xs.length = N ∧ (∀ z, z ∈ xs → 0 ≤ z ∧ z < 256 ∧ cellOk z = true) ∧ 0 ≤ i' ∧ Ev (fun k => spec_l02Sized.l0 k w h acc j b i hh) (w, h, strOfNums xs, i', h') := by
  induction m with
  | zero =>
    intro j acc i hh hj ha hz hi
    exact ⟨acc, i, hh, by omega, hz, hi, Ev.step (f := fun _ => some (w, h, strOfNums acc, i, hh)) (fun k => by rw [spec_l02Sized.l0, hwh, if_neg (by omega)]) (Ev.now _)⟩
  | succ m ih =>
    intro j acc i hh hj ha hz hi
    have hw3 : wrap64 ((j : Int) + 1) = ((j + 1 : Nat) : Int) := by rw [w64 (by omega) (by omega)]; omega
    have put : ∀ (v i' h' : Int), 0 ≤ v → v < 256 → cellOk v = true → 0 ≤ i' → ∃ (xs : List Int) (i2 h2 : Int), xs.length = N ∧ (∀ z, z ∈ xs → 0 ≤ z ∧ z < 256 ∧ cellOk z = true) ∧ 0 ≤ i2 ∧ Ev (fun k => spec_l02Sized.l0 k w h (acc ++ [v]) ((j + 1 : Nat) : Int) b i' h') (w, h, strOfNums xs, i2, h2) := fun v i' h' v0 v1 vc hi' =>
      ih (j + 1) (acc ++ [v]) i' h' (by omega) (by simp; omega) (fun z hm => by
        rcases List.mem_append.1 hm with h1 | h1
        · exact hz z h1
        · rw [List.mem_singleton.1 h1]; exact ⟨v0, v1, vc⟩) hi'
    obtain ⟨x, i1, h1, e, x0, x1, _, hi1⟩ := below_ok b hb i hh hi 8
    have hx := x1 (by omega)
    by_cases c0 : x = 0
    · obtain ⟨xs, i2, h2, r1, r2, r3, r4⟩ := put 35 i1 h1 (by omega) (by omega) (by decide) hi1
      exact ⟨xs, i2, h2, r1, r2, r3, Ev.step (fun k => by rw [spec_l02Sized.l0, hwh, if_pos (by omega), e, Option.bind_some, if_pos c0, if_pos (by omega), hw3]) r4⟩
    · have go1 : ∀ t : Bool, ∃ (xs : List Int) (i2 h2 : Int), xs.length = N ∧ (∀ z, z ∈ xs → 0 ≤ z ∧ z < 256 ∧ cellOk z = true) ∧ 0 ≤ i2 ∧ Ev (fun k => spec_l02Sized.j1 k w h acc j x t b i1 h1) (w, h, strOfNums xs, i2, h2) := fun t => by
        cases t with
        | true =>
          obtain ⟨y, i3, h3, e3, y0, y1, _, hi3⟩ := below_ok b hb i1 h1 hi1 3
          have hy := y1 (by omega)
          have hv : (wrap64 (65 + y)) % 256 = 65 + y := by rw [w64 (by omega) (by omega)]; omega
          obtain ⟨xs, i2, h2, r1, r2, r3, r4⟩ := put (65 + y) i3 h3 (by omega) (by omega) (decide_eq_true (.inr (.inr (.inr ⟨by omega, by omega⟩)))) hi3
          exact ⟨xs, i2, h2, r1, r2, r3, Ev.step (fun k => by rw [spec_l02Sized.j1, if_pos rfl, e3, Option.bind_some, if_pos (by omega), hv, hw3]) r4⟩
        | false =>
          by_cases c3 : x = 3
          · obtain ⟨y, i3, h3, e3, y0, y1, _, hi3⟩ := below_ok b hb i1 h1 hi1 6
            have hy := y1 (by omega)
            have hv : (wrap64 (97 + y)) % 256 = 97 + y := by rw [w64 (by omega) (by omega)]; omega
            obtain ⟨xs, i2, h2, r1, r2, r3, r4⟩ := put (97 + y) i3 h3 (by omega) (by omega) (decide_eq_true (.inr (.inr (.inl ⟨by omega, by omega⟩)))) hi3
            exact ⟨xs, i2, h2, r1, r2, r3, Ev.step (fun k => by rw [spec_l02Sized.j1, if_neg (by simp), if_pos c3, e3, Option.bind_some, if_pos (by omega), hv, hw3]) r4⟩
          · obtain ⟨xs, i2, h2, r1, r2, r3, r4⟩ := put 46 i1 h1 (by omega) (by omega) (by decide) hi1
            exact ⟨xs, i2, h2, r1, r2, r3, Ev.step (fun k => by rw [spec_l02Sized.j1, if_neg (by simp), if_neg c3, if_pos (by omega), hw3]) r4⟩
      by_cases c1 : x = 1
      · obtain ⟨xs, i2, h2, r1, r2, r3, r4⟩ := go1 (x == 1)
        exact ⟨xs, i2, h2, r1, r2, r3, Ev.step (fun k => by rw [spec_l02Sized.l0, hwh, if_pos (by omega), e, Option.bind_some, if_neg c0, if_pos c1]) r4⟩
      · obtain ⟨xs, i2, h2, r1, r2, r3, r4⟩ := go1 (x == 2)
        exact ⟨xs, i2, h2, r1, r2, r3, Ev.step (fun k => by rw [spec_l02Sized.l0, hwh, if_pos (by omega), e, Option.bind_some, if_neg c0, if_neg c1]) r4⟩

theorem sized_grid {w h : Int} {xs : List Int} (hw : 1 ≤ w ∧ w ≤ 8) (hh : 1 ≤ h ∧ h ≤ 8) (hl : (xs.length : Int) = w * h) (hz : ∀ z, z ∈ xs → 0 ≤ z ∧ z < 256 ∧ cellOk z = true) : gridOk w h (strOfNums xs) = true := by
  have hs := strOfNums_size xs
  unfold gridOk
  rw [Bool.and_eq_true, cellsOk_iff]
  refine ⟨decide_eq_true ⟨hw.1, hw.2, hh.1, hh.2, by rw [hs]; exact hl⟩, fun j hj => ?_⟩
  rw [hs] at hj
  have hm := hz _ (getD_mem' hj)
  rw [Int.zero_add, strNums_bt xs j hj hm.1 hm.2.1]
  exact hm.2.2

theorem right_ev (b : List Int) (hb : b.length ≤ maxLen) (i hh : Int) (hi : 0 ≤ i) : ∃ (w h : Int) (c : ByteArray) (i' h' : Int), gridOk w h c = true ∧ 0 ≤ i' ∧ Ev (fun k => spec_l02Right.f k b i hh) (w, h, c, i', h') := by
  obtain ⟨x, i1, h1, e1, x0, x1, _, hi1⟩ := below_ok b hb i hh hi 3
  obtain ⟨y, i2, h2, e2, y0, y1, _, hi2⟩ := below_ok b hb i1 h1 hi1 3
  have hx := x1 (by omega)
  have hy := y1 (by omega)
  have wx : wrap64 (2 + x) = 2 + x := w64 (by omega) (by omega)
  have wy : wrap64 (2 + y) = 2 + y := w64 (by omega) (by omega)
  have hm := side_mul (w := 2 + x) (h := 2 + y) (by omega) (by omega) (by omega) (by omega)
  obtain ⟨xs, i3, h3, r1, r2, r3, r4⟩ := sized_l0 b hb (2 + x) (2 + y) ((2 + x) * (2 + y)).toNat (by omega) (by rw [w64 (by omega) (by omega)]; omega) ((2 + x) * (2 + y)).toNat 0 [] i2 h2 (by omega) rfl (fun z hz => by cases hz) hi2
  have r5 : Ev (fun k => spec_l02Sized.f k b i2 h2 (2 + x) (2 + y)) (2 + x, 2 + y, strOfNums xs, i3, h3) := r4
  refine ⟨2 + x, 2 + y, strOfNums xs, i3, h3, sized_grid ⟨by omega, by omega⟩ ⟨by omega, by omega⟩ (by omega) r2, r3, ?_⟩
  refine Ev.congr (fun k => by unfold spec_l02Right.f; rw [e1, Option.bind_some, e2, Option.bind_some, wx, wy]) (Ev.bind r5 (Ev.now _))

/-! spec.GridOk -/
theorem l02Kind_eq (b : Int) : spec_l02Kind.f b = some (cellOk b) := by
  unfold spec_l02Kind.f cellOk
  repeat' split
  all_goals
    congr 1
    first
    | (rw [decide_eq_decide]; omega)
    | (rw [eq_comm, decide_eq_true_eq]; omega)
    | (rw [eq_comm, decide_eq_false_iff_not]; omega)

theorem spec_cells (w h : Int) (c : ByteArray) (hc : c.size ≤ 64) (d : Nat) : ∀ i : Int, 0 ≤ i → i + d = c.size → Ev (fun k => spec_GridOk.l0 k i w h c) (cellsOk c d i) := by
  induction d with
  | zero => intro i h0 h1; exact Ev.step (f := fun _ => some true) (fun k => by rw [spec_GridOk.l0, if_neg (by omega)]) (Ev.now _)
  | succ d ih =>
    intro i h0 h1
    rw [cellsOk]
    cases hk : cellOk (bt c i) with
    | true => exact Ev.step (fun k => by rw [spec_GridOk.l0, if_pos (by omega), if_pos h0, l02Kind_eq, hk, Option.bind_some, if_pos rfl, w64 (by omega) (by omega)]) (ih (i + 1) (by omega) (by omega))
    | false => exact Ev.step (f := fun _ => some false) (fun k => by rw [spec_GridOk.l0, if_pos (by omega), if_pos h0, l02Kind_eq, hk, Option.bind_some, if_neg (by simp)]) (Ev.now _)

theorem sGridOk (w h : Int) (c : ByteArray) : Ev (fun k => spec_GridOk.f k w h c) (gridOk w h c) := by
  have bad : ∀ hn : ¬ sideOk w h c, Ev (fun k => spec_GridOk.j0 k true w h c) (gridOk w h c) := fun hn => by
    have : gridOk w h c = false := by unfold gridOk; rw [decide_eq_false hn]; rfl
    rw [this]
    exact Ev.step (fun k => by rw [spec_GridOk.j0, if_pos rfl]) (Ev.now _)
  by_cases h1' : ¬ w ≥ 1
  · have h1 := h1'
    exact Ev.congr (fun k => by unfold spec_GridOk.f spec_l01In.f; rw [if_neg h1, Option.bind_some, if_neg (by simp)]) (bad (fun hs => h1 hs.1))
  have h1 := Decidable.not_not.mp h1'
  by_cases h2' : ¬ w ≤ 8
  · have h2 := h2'
    exact Ev.congr (fun k => by unfold spec_GridOk.f spec_l01In.f; rw [if_pos h1, Option.bind_some, if_neg (by simpa using h2)]) (bad (fun hs => h2 hs.2.1))
  have h2 := Decidable.not_not.mp h2'
  by_cases h3' : ¬ h ≥ 1
  · have h3 := h3'
    exact Ev.congr (fun k => by unfold spec_GridOk.f spec_l01In.f; rw [if_pos h1, Option.bind_some, if_pos (by simpa using h2), if_neg h3, Option.bind_some, if_neg (by simp)]) (bad (fun hs => h3 hs.2.2.1))
  have h3 := Decidable.not_not.mp h3'
  by_cases h4' : ¬ h ≤ 8
  · have h4 := h4'
    exact Ev.congr (fun k => by unfold spec_GridOk.f spec_l01In.f; rw [if_pos h1, Option.bind_some, if_pos (by simpa using h2), if_pos h3, Option.bind_some, if_neg (by simpa using h4)]) (bad (fun hs => h4 hs.2.2.2.1))
  have h4 := Decidable.not_not.mp h4'
  have hm := side_mul h1 h2 h3 h4
  have hw : wrap64 (w * h) = w * h := w64 (by omega) (by omega)
  refine Ev.congr (fun k => by unfold spec_GridOk.f spec_l01In.f; rw [if_pos h1, Option.bind_some, if_pos (by simpa using h2), if_pos h3, Option.bind_some, if_pos (by simpa using h4), hw]) ?_
  by_cases h5 : (c.size : Int) = w * h
  · have : gridOk w h c = cellsOk c c.size 0 := by unfold gridOk; rw [decide_eq_true (show sideOk w h c from ⟨h1, h2, h3, h4, h5⟩)]; rfl
    rw [this]
    exact Ev.step (fun k => by rw [spec_GridOk.j0, if_neg (by simpa using h5)]) (spec_cells w h c (by omega) c.size 0 (by omega) (by omega))
  · have : ((c.size : Int) != w * h) = true := by simpa using h5
    rw [this]
    exact bad (fun hs => h5 hs.2.2.2.2)

/-! spec.FreeAt -/
theorem sFreeAt (w h : Int) (c : ByteArray) (x : Int) : Ev (fun k => spec_FreeAt.f k w h c x) (freeAt w h c x) := by
  refine Ev.bind (sGridOk w h c) ?_
  unfold freeAt
  cases hg : gridOk w h c with
  | false => simp only [Bool.false_eq_true, if_false, Bool.false_and]; exact Ev.now _
  | true =>
    simp only [if_true, Bool.true_and]
    by_cases h0 : x ≥ 0
    · by_cases h1 : x < (c.size : Int)
      · refine Ev.of_eq fun k => ?_
        rw [if_pos h0, if_pos h1, if_pos (by omega), decide_eq_true (show 0 ≤ x ∧ x < (c.size : Int) from ⟨h0, h1⟩), Bool.true_and]
        congr 1
        rw [Bool.eq_iff_iff, bne_iff_ne, decide_eq_true_eq]
      · refine Ev.of_eq fun k => ?_
        rw [if_pos h0, if_neg h1, decide_eq_false (fun hh : 0 ≤ x ∧ x < (c.size : Int) => h1 hh.2)]
        rfl
    · refine Ev.of_eq fun k => ?_
      rw [if_neg h0, decide_eq_false (fun hh : 0 ≤ x ∧ x < (c.size : Int) => h0 hh.1)]
      rfl

/-! spec.FreeCells -/
theorem sFree_l0 {w h : Int} {c : ByteArray} (g : gridOk w h c = true) (d : Nat) : ∀ (i : Int) (acc : List Int), 0 ≤ i → i + d = c.size → acc.length + d ≤ 100 →
    Ev (fun k => spec_FreeCells.l0 k acc i w h c) (acc ++ freeList c d i) := by
  have hs := gridOk_size g
  induction d with
  | zero =>
    intro i acc h0 h1 h2
    rw [freeList, List.append_nil]
    exact Ev.step (fun k => by rw [spec_FreeCells.l0, if_neg (by omega)]) (Ev.step (f := fun _ => some acc) (fun k => by rw [spec_FreeCells.j1, if_neg (by simp)]) (Ev.now _))
  | succ d ih =>
    intro i acc h0 h1 h2
    have hw : wrap64 (i + 1) = i + 1 := w64 (by omega) (by omega)
    rw [freeList]
    refine Ev.step (fun k => by rw [spec_FreeCells.l0, if_pos (by omega), decide_eq_true (show i < 64 by omega)]) (Ev.step (fun k => by rw [spec_FreeCells.j1, if_pos rfl]) (Ev.bind (sFreeAt w h c i) ?_))
    rw [freeAt_in g h0 (by omega)]
    by_cases hb : bt c i ≠ 35
    · rw [if_pos hb, ← List.append_assoc, decide_eq_true hb]
      exact Ev.congr (fun k => by rw [if_pos rfl, if_pos (by omega), hw]) (ih (i + 1) (acc ++ [i]) (by omega) (by omega) (by simp; omega))
    · rw [if_neg hb, List.nil_append, decide_eq_false hb]
      exact Ev.congr (fun k => by rw [if_neg (by simp), hw]) (ih (i + 1) acc (by omega) (by omega) (by omega))

theorem sFree_bad {w h : Int} {c : ByteArray} (g : gridOk w h c = false) (d : Nat) : ∀ i : Int, 0 ≤ i → i + d = 64 → Ev (fun k => spec_FreeCells.l0 k [] i w h c) [] := by
  have stop : ∀ i : Int, Ev (fun k => spec_FreeCells.j1 k [] i false w h c) [] := fun i => Ev.step (f := fun _ => some []) (fun k => by rw [spec_FreeCells.j1, if_neg (by simp)]) (Ev.now _)
  have hf : ∀ i, freeAt w h c i = false := fun i => by unfold freeAt; rw [g]; rfl
  induction d with
  | zero =>
    intro i h0 h1
    by_cases hc : i < (c.size : Int)
    · exact Ev.step (fun k => by rw [spec_FreeCells.l0, if_pos hc, decide_eq_false (by omega)]) (stop i)
    · exact Ev.step (fun k => by rw [spec_FreeCells.l0, if_neg hc]) (stop i)
  | succ d ih =>
    intro i h0 h1
    by_cases hc : i < (c.size : Int)
    · refine Ev.step (fun k => by rw [spec_FreeCells.l0, if_pos hc, decide_eq_true (show i < 64 by omega)]) (Ev.step (fun k => by rw [spec_FreeCells.j1, if_pos rfl]) (Ev.bind (sFreeAt w h c i) ?_))
      rw [hf]
      exact Ev.congr (fun k => by rw [if_neg (by simp), w64 (x := i + 1) (by omega) (by omega)]) (ih (i + 1) (by omega) (by omega))
    · exact Ev.step (fun k => by rw [spec_FreeCells.l0, if_neg hc]) (stop i)

theorem sFreeCells (w h : Int) (c : ByteArray) : Ev (fun k => spec_FreeCells.f k w h c) (freeCells w h c) := by
  unfold freeCells
  cases g : gridOk w h c with
  | false => rw [if_neg (by simp)]; exact sFree_bad g 64 0 (by omega) (by omega)
  | true =>
    rw [if_pos rfl]
    have hs := gridOk_size g
    have h0 := sFree_l0 g c.size 0 [] (by omega) (by omega) (by simp; omega)
    rw [List.nil_append] at h0
    exact h0

/-! spec.l03Has -/
theorem has_l0 (xs : List Int) (v : Int) (hx : xs.length ≤ 1048576) (d : Nat) : ∀ i : Nat, i + d = xs.length → Ev (fun k => spec_l03Has.l0 k xs v i) ((xs.drop i).contains v) := by
  induction d with
  | zero =>
    intro i h
    have : xs.drop i = [] := List.drop_eq_nil_of_le (by omega)
    rw [this]
    exact Ev.step (f := fun _ => some false) (fun k => by rw [spec_l03Has.l0, if_neg (by omega)]) (Ev.now _)
  | succ d ih =>
    intro i h
    have e : rd xs (i : Int) = xs.getD i 0 := by unfold rd; rw [Int.toNat_natCast]
    have hw : wrap64 ((i : Int) + 1) = ((i + 1 : Nat) : Int) := by rw [w64 (by omega) (by omega)]; omega
    rw [drop_cons xs i 0 (by omega), List.contains_cons]
    by_cases hv : xs.getD i 0 = v
    · rw [beq_iff_eq.mpr hv.symm, Bool.true_or]
      exact Ev.step (f := fun _ => some true) (fun k => by rw [spec_l03Has.l0, if_pos (by omega), if_pos (by omega), e, if_pos hv]) (Ev.now _)
    · rw [beq_eq_false_iff_ne.mpr (fun hh => hv hh.symm), Bool.false_or]
      exact Ev.step (fun k => by rw [spec_l03Has.l0, if_pos (by omega), if_pos (by omega), e, if_neg hv, hw]) (ih (i + 1) (by omega))

theorem has_ev (xs : List Int) (v : Int) (hx : xs.length ≤ 1048576) : Ev (fun k => spec_l03Has.f k xs v) (xs.contains v) := by
  have h0 := has_l0 xs v hx xs.length 0 (Nat.zero_add _)
  rw [List.drop_zero, show ((0 : Nat) : Int) = 0 from rfl] at h0
  exact h0

/-! spec.l04Some and spec.DrawSome: a right map and some of its free cells, ascending -/
theorem mem_freeList (c : ByteArray) (d : Nat) : ∀ (i z : Int), z ∈ freeList c d i ↔ i ≤ z ∧ z < i + d ∧ bt c z ≠ 35 := by
  induction d with
  | zero => intro i z; simp only [freeList, List.not_mem_nil, false_iff]; omega
  | succ d ih =>
    intro i z
    rw [freeList, List.mem_append, ih]
    constructor
    · rintro (h | h)
      · split at h
        · rename_i hb
          rw [List.mem_singleton] at h
          subst h
          exact ⟨by omega, by omega, hb⟩
        · cases h
      · exact ⟨by omega, by omega, h.2.2⟩
    · rintro ⟨h1, h2, h3⟩
      by_cases e : z = i
      · subst e
        exact .inl (by rw [if_pos h3]; exact List.mem_singleton.2 rfl)
      · exact .inr ⟨by omega, by omega, h3⟩

theorem freeList_up (c : ByteArray) (d : Nat) : ∀ i : Int, (freeList c d i).Pairwise (· < ·) := by
  induction d with
  | zero => intro i; exact List.Pairwise.nil
  | succ d ih =>
    intro i
    rw [freeList, List.pairwise_append]
    refine ⟨by split <;> simp, ih _, fun x hx y hy => ?_⟩
    have := ((mem_freeList c d _ _).1 hy).1
    split at hx
    · rw [List.mem_singleton.1 hx]; omega
    · cases hx

theorem mem_freeCells {w h : Int} {c : ByteArray} {z : Int} : z ∈ freeCells w h c ↔ freeAt w h c z = true := by
  unfold freeCells
  rw [freeAt_iff]
  by_cases g : gridOk w h c = true
  · rw [if_pos g, mem_freeList]
    constructor
    · rintro ⟨a, b, d⟩; exact ⟨g, a, by omega, d⟩
    · rintro ⟨_, a, b, d⟩; exact ⟨a, by omega, d⟩
  · rw [if_neg g]
    constructor
    · intro hz; cases hz
    · rintro ⟨a, _⟩; exact absurd a g

theorem freeCells_up (w h : Int) (c : ByteArray) : (freeCells w h c).Pairwise (· < ·) := by
  unfold freeCells
  split
  · exact freeList_up _ _ _
  · exact List.Pairwise.nil

theorem some_l1 (F pick : List Int) (hF : F.length ≤ 64) (hp : pick.length ≤ 100) (b : List Int) (i h : Int) (m : Nat) : ∀ (j : Nat) (acc : List Int), j + m = F.length → acc.length ≤ j → Ev (fun k => spec_l04Some.l1 k F pick acc j b i h) (acc ++ (F.drop j).filter (fun z => pick.contains z), i, h) := by
  induction m with
  | zero =>
    intro j acc hj ha
    rw [List.drop_eq_nil_of_le (by omega), List.filter_nil, List.append_nil]
    exact Ev.step (f := fun _ => some (acc, i, h)) (fun k => by rw [spec_l04Some.l1, if_neg (by omega)]) (Ev.now _)
  | succ m ih =>
    intro j acc hj ha
    have hw3 : wrap64 ((j : Int) + 1) = ((j + 1 : Nat) : Int) := by rw [w64 (by omega) (by omega)]; omega
    have hh := has_ev pick (F.getD j 0) (by omega)
    have er : rd F (j : Int) = F.getD j 0 := by unfold rd; rw [Int.toNat_natCast]
    rw [drop_cons F j 0 (by omega), List.filter_cons]
    cases hq : pick.contains (F.getD j 0) with
    | true =>
      rw [hq] at hh
      rw [if_pos rfl]
      have := ih (j + 1) (acc ++ [F.getD j 0]) (by omega) (by simp; omega)
      rw [List.append_assoc] at this
      exact Ev.step (fun k => by rw [spec_l04Some.l1, if_pos (by omega), if_pos (by omega), er]) (Ev.bind hh (Ev.congr (fun k => by rw [if_pos rfl, if_pos (by omega), hw3]) this))
    | false =>
      rw [hq] at hh
      rw [if_neg (by simp)]
      exact Ev.step (fun k => by rw [spec_l04Some.l1, if_pos (by omega), if_pos (by omega), er]) (Ev.bind hh (Ev.congr (fun k => by rw [if_neg (by simp), hw3]) (ih (j + 1) acc (by omega) (by omega))))

theorem some_l0 (F : List Int) (hF : F.length ≤ 64) (n : Int) (hn : n ≤ 50) (b : List Int) (hb : b.length ≤ maxLen) (m : Nat) : ∀ (j : Nat) (pick : List Int) (i h : Int), (j : Int) + m = 50 → pick.length ≤ j → 0 ≤ i → ∃ (pick' : List Int) (i' h' : Int), 0 ≤ i' ∧ Ev (fun k => spec_l04Some.l0 k n F pick j b i h) (F.filter (fun z => pick'.contains z), i', h') := by
  have stop : ∀ (pick : List Int) (i h : Int), pick.length ≤ 50 → Ev (fun k => spec_l04Some.j1 k F pick b i h) (F.filter (fun z => pick.contains z), i, h) := fun pick i h hp => by
    have := some_l1 F pick hF (by omega) b i h F.length 0 [] (Nat.zero_add _) (Nat.le_refl _)
    rw [List.drop_zero, List.nil_append, show ((0 : Nat) : Int) = 0 from rfl] at this
    exact Ev.step (fun k => by rw [spec_l04Some.j1]) this
  induction m with
  | zero =>
    intro j pick i h hj hp hi
    exact ⟨pick, i, h, hi, Ev.step (fun k => by rw [spec_l04Some.l0, if_neg (by omega)]) (stop pick i h (by omega))⟩
  | succ m ih =>
    intro j pick i h hj hp hi
    by_cases c1 : (j : Int) < n
    · by_cases c2 : (F.length : Int) > 0
      · have hw3 : wrap64 ((j : Int) + 1) = ((j + 1 : Nat) : Int) := by rw [w64 (by omega) (by omega)]; omega
        obtain ⟨x, i1, h1, e, x0, x1, _, hi1⟩ := below_ok b hb i h hi F.length
        have hx := x1 (by omega)
        obtain ⟨p', i', h', r1, r2⟩ := ih (j + 1) (pick ++ [rd F x]) i1 h1 (by omega) (by simp; omega) hi1
        exact ⟨p', i', h', r1, Ev.step (fun k => by rw [spec_l04Some.l0, if_pos c1, if_pos c2, e, Option.bind_some, if_pos x0, if_pos hx, if_pos (by omega), hw3]) r2⟩
      · exact ⟨pick, i, h, hi, Ev.step (fun k => by rw [spec_l04Some.l0, if_pos c1, if_neg c2]) (stop pick i h (by omega))⟩
    · exact ⟨pick, i, h, hi, Ev.step (fun k => by rw [spec_l04Some.l0, if_neg c1]) (stop pick i h (by omega))⟩

theorem drawSome_ev (b : List Int) (hb : b.length ≤ maxLen) : ∃ (w h : Int) (c : ByteArray) (l : List Int), gridOk w h c = true ∧ l.length ≤ 64 ∧ (∀ z, z ∈ l → freeAt w h c z = true) ∧ l.Pairwise (· < ·) ∧ Ev (fun k => spec_DrawSome.f k b) (w, h, c, l) := by
  obtain ⟨h0, e0⟩ := new_ev b
  obtain ⟨w, h, c, i1, h1, g, hi1, e1⟩ := right_ev b hb 0 h0 (Int.le_refl _)
  obtain ⟨x, i2, h2, e2, x0, x1, _, hi2⟩ := below_ok b hb i1 h1 hi1 6
  have hx := x1 (by omega)
  have hF := freeCells_len w h c
  obtain ⟨p, i3, h3, hi3, e3⟩ := some_l0 (freeCells w h c) hF x (by omega) b hb 50 0 [] i2 h2 (by omega) (Nat.le_refl _) hi2
  have e4 : Ev (fun k => spec_l04Some.f k b i2 h2 w h c x) ((freeCells w h c).filter (fun z => p.contains z), i3, h3) := Ev.bind (sFreeCells w h c) e3
  refine ⟨w, h, c, (freeCells w h c).filter (fun z => p.contains z), g, ?_, fun z hz => mem_freeCells.1 (List.mem_filter.1 hz).1, (freeCells_up w h c).filter _, ?_⟩
  · have := List.length_filter_le (fun z => p.contains z) (freeCells w h c)
    omega
  · refine Ev.bind e0 (Ev.bind e1 (Ev.congr (fun k => by dsimp only; rw [e2, Option.bind_some]) (Ev.bind e4 (Ev.now _))))

/-! the text of a map -/
def dec (n : Int) : ByteArray := ⟨(Lib.itoa n).toArray⟩
theorem dec_one {n : Int} (h0 : 1 ≤ n) (h1 : n ≤ 8) : dec n = ⟨#[UInt8.ofNat (48 + n.toNat)]⟩ := by
  obtain ⟨u, rfl⟩ : ∃ u : Nat, n = u := ⟨n.toNat, by omega⟩
  unfold dec
  rw [Go.Proofs.YtkaffmlppfppeaaDoor.MReadDecimal.itoa_nat, Lib.decDigits, dif_pos (by omega), Int.toNat_natCast]
theorem dec_size {n : Int} (h0 : 1 ≤ n) (h1 : n ≤ 8) : (dec n).size = 1 := by rw [dec_one h0 h1]; rfl
theorem dec_ev {n : Int} (h0 : 1 ≤ n) (h1 : n ≤ 8) : Ev (fun k => Go.Proofs.YtkaffmlppfppeaaDoor.DSpec.spec_Decimal.f k n) (dec n) := ⟨41, fun k hk => Go.Proofs.YtkaffmlppfppeaaDoor.MReadDecimal.decimal_k n (by omega) (by omega) k hk⟩

def headT (a b : ByteArray) : ByteArray := ((((⟨#[104, 101, 105, 103, 104, 116, 32]⟩ : ByteArray) ++ a) ++ (⟨#[10, 119, 105, 100, 116, 104, 32]⟩ : ByteArray)) ++ b) ++ (⟨#[10, 109, 97, 112, 10]⟩ : ByteArray)
def rowT (c : ByteArray) (w y : Int) : ByteArray := c.extract (y * w).toNat (y * w + w).toNat ++ (⟨#[10]⟩ : ByteArray)
def rowsT (c : ByteArray) (w : Int) : Nat → Int → ByteArray
  | 0, _ => ⟨#[]⟩
  | d + 1, y => rowT c w y ++ rowsT c w d (y + 1)
def gridT (w h : Int) (c : ByteArray) : ByteArray := headT (dec h) (dec w) ++ rowsT c w h.toNat 0

theorem size1 : (⟨#[10]⟩ : ByteArray).size = 1 := rfl
theorem size5 : (⟨#[10, 109, 97, 112, 10]⟩ : ByteArray).size = 5 := rfl
theorem size7a : (⟨#[104, 101, 105, 103, 104, 116, 32]⟩ : ByteArray).size = 7 := rfl
theorem size7b : (⟨#[10, 119, 105, 100, 116, 104, 32]⟩ : ByteArray).size = 7 := rfl
theorem head_size (a b : ByteArray) : (headT a b).size = 19 + a.size + b.size := by
  unfold headT
  rw [ByteArray.size_append, ByteArray.size_append, ByteArray.size_append, ByteArray.size_append, size5, size7a, size7b]
  omega
theorem row_size (c : ByteArray) {w y : Int} (hw : 1 ≤ w) (h8 : w ≤ 8) (h0 : 0 ≤ y * w) : (rowT c w y).size ≤ 9 := by
  unfold rowT
  rw [ByteArray.size_append, ByteArray.size_extract, size1]
  omega

/-- where the row y lies in a right map -/
theorem row_in {w h : Int} {c : ByteArray} (g : gridOk w h c = true) {y : Int} (y0 : 0 ≤ y) (yh : y < h) : 0 ≤ y * w ∧ y * w + w ≤ c.size ∧ y * w ≤ 64 ∧ 1 ≤ w ∧ w ≤ 8 ∧ h ≤ 8 := by
  obtain ⟨h1, h2, h3, h4, h5⟩ := gridOk_side g
  have a : 0 ≤ y * w := Int.mul_nonneg y0 (by omega)
  have b : (y + 1) * w ≤ h * w := Int.mul_le_mul_of_nonneg_right (by omega) (by omega)
  have e : (y + 1) * w = y * w + w := by rw [Int.add_mul, Int.one_mul]
  have e2 : h * w = w * h := Int.mul_comm h w
  have sz := (gridOk_size g).2
  omega

/-! impl.GridOk -/
theorem impl_cells (w h : Int) (c : ByteArray) (hc : c.size ≤ 64) (d : Nat) : ∀ i : Int, 0 ≤ i → i + d = c.size → Ev (fun k => impl_GridOk.l0 k i w h c) (cellsOk c d i) := by
  induction d with
  | zero => intro i h0 h1; exact Ev.step (f := fun _ => some true) (fun k => by rw [impl_GridOk.l0, if_neg (by omega)]) (Ev.now _)
  | succ d ih =>
    intro i h0 h1
    rw [cellsOk]
    have hnext := ih (i + 1) (by omega) (by omega)
    have hw : wrap64 (i + 1) = i + 1 := w64 (by omega) (by omega)
    cases hk : cellOk (bt c i) with
    | true =>
      have hk2 := of_decide_eq_true hk
      refine Ev.step (f := fun k => impl_GridOk.l0 k (i + 1) w h c) (fun k => ?_) hnext
      rw [impl_GridOk.l0, if_pos (by omega), if_pos h0, hw]
      repeat' split
      all_goals first | rfl | omega
    | false =>
      have hk2 := of_decide_eq_false hk
      refine Ev.step (f := fun k => some false) (fun k => ?_) (Ev.now _)
      rw [impl_GridOk.l0, if_pos (by omega), if_pos h0, hw]
      repeat' split
      all_goals first | rfl | omega

theorem iGridOk (w h : Int) (c : ByteArray) : Ev (fun k => impl_GridOk.f k w h c) (gridOk w h c) := by
  have bad : ∀ hn : ¬ sideOk w h c, Ev (fun k => impl_GridOk.j0 k true w h c) (gridOk w h c) := fun hn => by
    have : gridOk w h c = false := by unfold gridOk; rw [decide_eq_false hn]; rfl
    rw [this]
    exact Ev.step (fun k => by rw [impl_GridOk.j0, if_pos rfl]) (Ev.now _)
  by_cases h1 : w < 1
  · exact Ev.congr (fun k => by unfold impl_GridOk.f; rw [if_pos h1]) (bad (fun hs => by have := hs.1; omega))
  by_cases h2 : w > 8
  · exact Ev.congr (fun k => by unfold impl_GridOk.f; rw [if_neg h1, if_pos h2]) (bad (fun hs => by have := hs.2.1; omega))
  by_cases h3 : h < 1
  · exact Ev.congr (fun k => by unfold impl_GridOk.f; rw [if_neg h1, if_neg h2, if_pos h3]) (bad (fun hs => by have := hs.2.2.1; omega))
  by_cases h4 : h > 8
  · exact Ev.congr (fun k => by unfold impl_GridOk.f; rw [if_neg h1, if_neg h2, if_neg h3, if_pos h4]) (bad (fun hs => by have := hs.2.2.2.1; omega))
  have hm := side_mul (w := w) (h := h) (by omega) (by omega) (by omega) (by omega)
  have hw : wrap64 (w * h) = w * h := w64 (by omega) (by omega)
  refine Ev.congr (fun k => by unfold impl_GridOk.f; rw [if_neg h1, if_neg h2, if_neg h3, if_neg h4, hw]) ?_
  by_cases h5 : (c.size : Int) = w * h
  · have : gridOk w h c = cellsOk c c.size 0 := by unfold gridOk; rw [decide_eq_true (show sideOk w h c from ⟨by omega, by omega, by omega, by omega, h5⟩)]; rfl
    rw [this]
    exact Ev.step (fun k => by rw [impl_GridOk.j0, if_neg (by simpa using h5)]) (impl_cells w h c (by omega) c.size 0 (by omega) (by omega))
  · have : ((c.size : Int) != w * h) = true := by simpa using h5
    rw [this]
    exact bad (fun hs => h5 hs.2.2.2.2)

/-! impl.GridText -/
theorem iText_l0 {w h : Int} {c : ByteArray} (g : gridOk w h c = true) (d : Nat) : ∀ (y : Nat) (acc : ByteArray), (y : Int) + d = h → acc.size ≤ 100 + 9 * y → Ev (fun k => impl_GridText.l0 k acc y w h c) (acc ++ rowsT c w d y, true) := by
  induction d with
  | zero =>
    intro y acc hy _
    have e : acc ++ rowsT c w 0 y = acc := ByteArray.append_empty
    rw [e]
    exact Ev.step (f := fun _ => some (acc, true)) (fun k => by rw [impl_GridText.l0, if_neg (by omega)]) (Ev.now _)
  | succ d ih =>
    intro y acc hy hs
    obtain ⟨r0, r1, r2, w1, w8, h8⟩ := row_in g (y := (y : Int)) (by omega) (by omega)
    have hlt : (y : Int) < h := by omega
    have e1 : wrap64 ((y : Int) * w) = (y : Int) * w := w64 (by omega) (by omega)
    have e3 : wrap64 ((y : Int) + 1) = ((y + 1 : Nat) : Int) := by rw [w64 (by omega) (by omega)]; omega
    have e2 : wrap64 (((y + 1 : Nat) : Int) * w) = (y : Int) * w + w := by
      have : ((y + 1 : Nat) : Int) * w = (y : Int) * w + w := by rw [show ((y + 1 : Nat) : Int) = (y : Int) + 1 from rfl, Int.add_mul, Int.one_mul]
      rw [this]
      exact w64 (by omega) (by omega)
    have hz := row_size c w1 w8 r0
    have hx : (c.extract ((y : Int) * w).toNat ((y : Int) * w + w).toNat).size + 1 ≤ 9 := by
      unfold rowT at hz
      rw [ByteArray.size_append, size1] at hz
      exact hz
    have hrec := ih (y + 1) (acc ++ rowT c w y) (by omega) (by rw [ByteArray.size_append]; omega)
    have e4 : acc ++ rowsT c w (d + 1) y = (acc ++ rowT c w y) ++ rowsT c w d ((y + 1 : Nat) : Int) := by
      have : rowsT c w (d + 1) y = rowT c w y ++ rowsT c w d ((y : Int) + 1) := rfl
      rw [this, ByteArray.append_assoc]
      rfl
    rw [e4]
    refine Ev.step (fun k => ?_) hrec
    rw [impl_GridText.l0, if_pos hlt, e1, if_pos r0, e3, e2, if_pos (by omega), if_pos r1, if_pos (by omega), if_pos (by rw [ByteArray.size_append, size1]; omega)]
    rfl

theorem iDec_ev {n : Int} (h0 : 1 ≤ n) (h1 : n ≤ 8) : Ev (fun k => impl_Decimal.f k n) (dec n) := Ev.bind (dec_ev h0 h1) (Ev.now _)

theorem iText (w h : Int) (c : ByteArray) : Ev (fun k => impl_GridText.f k w h c) (if gridOk w h c = true then (gridT w h c, true) else ((⟨#[]⟩ : ByteArray), false)) := by
  have hg := iGridOk w h c
  cases g : gridOk w h c with
  | false =>
    rw [g] at hg
    rw [if_neg (by simp)]
    exact Ev.bind hg (Ev.of_eq fun k => by rw [if_neg (by simp)])
  | true =>
    rw [g] at hg
    rw [if_pos rfl]
    obtain ⟨h1, h2, h3, h4, h5⟩ := gridOk_side g
    have zh := dec_size h3 h4
    have zw := dec_size h1 h2
    have hl := iText_l0 g h.toNat 0 (headT (dec h) (dec w)) (by omega) (by rw [head_size]; omega)
    rw [show ((0 : Nat) : Int) = 0 from rfl] at hl
    have e0 : (⟨#[]⟩ : ByteArray) ++ headT (dec h) (dec w) = headT (dec h) (dec w) := ByteArray.empty_append
    rw [← e0] at hl
    have e1 : ((⟨#[]⟩ : ByteArray) ++ headT (dec h) (dec w)) ++ rowsT c w h.toNat 0 = gridT w h c := by rw [e0]; rfl
    rw [e1] at hl
    refine Ev.bind hg (Ev.congr (fun k => by rw [if_pos rfl]) (Ev.bind (iDec_ev h3 h4) ?_))
    refine Ev.congr (fun k => by rw [if_pos (by omega), if_pos (by rw [ByteArray.size_append, size7a]; omega)]) (Ev.bind (iDec_ev h1 h2) ?_)
    exact Ev.congr (fun k => by rw [if_pos (by simp only [ByteArray.size_append, size7a, size7b]; omega), if_pos (by simp only [ByteArray.size_append, size7a, size7b]; omega), if_pos (by simp only [ByteArray.size_append, size7a, size7b, size5]; omega)]; rfl) hl

/-! a map's text cut at its ends of line -/
def nl : ByteArray := ⟨#[10]⟩
def NoNl (a : ByteArray) : Prop := ∀ b ∈ a.data.toList, b ≠ 10

theorem index_at (a r : List UInt8) (h : ∀ b ∈ a, b ≠ 10) : Lib.index (a ++ 10 :: r) [10] = a.length := by
  induction a with
  | nil => rfl
  | cons b l ih =>
    have hb : ¬ (List.isPrefixOf [10] (b :: (l ++ 10 :: r)) = true) := fun hh => by
      simp [List.isPrefixOf] at hh
      exact h b (List.mem_cons_self ..) hh.symm
    have ih' := ih (fun x hx => h x (List.mem_cons_of_mem _ hx))
    show Lib.index (b :: (l ++ 10 :: r)) [10] = _
    rw [Lib.index, if_neg hb, ih', if_neg (by rw [beq_iff_eq]; omega), List.length_cons]
    omega

theorem index_no (a : List UInt8) (h : ∀ b ∈ a, b ≠ 10) : Lib.index a [10] = -1 := by
  induction a with
  | nil => rfl
  | cons b l ih =>
    have hb : ¬ (List.isPrefixOf [10] (b :: l) = true) := fun hh => by
      simp [List.isPrefixOf] at hh
      exact h b (List.mem_cons_self ..) hh.symm
    rw [Lib.index, if_neg hb, ih (fun x hx => h x (List.mem_cons_of_mem _ hx)), if_pos (by rfl)]

theorem sz_toList (s : ByteArray) : s.data.toList.length = s.size := Array.length_toList

theorem split_cons {A : ByteArray} (R : ByteArray) (hA : NoNl A) : Lib.countB (A ++ (nl ++ R)) nl = 1 + Lib.countB R nl ∧ Lib.splitB nl 0 (Lib.countB (A ++ (nl ++ R)) nl) (A ++ (nl ++ R)) = A :: Lib.splitB nl 0 (Lib.countB R nl) R := by
  have hd : (A ++ (nl ++ R)).data.toList = A.data.toList ++ 10 :: R.data.toList := by
    rw [ByteArray.data_append, ByteArray.data_append, Array.toList_append, Array.toList_append]
    rfl
  have hi : Lib.indexB (A ++ (nl ++ R)) nl = (A.size : Int) := by
    show Lib.index (A ++ (nl ++ R)).data.toList [10] = _
    rw [hd, index_at _ _ hA, sz_toList]
  have e1 : nl.size = 1 := rfl
  have hext : (A ++ (nl ++ R)).extract (A.size + nl.size) (A ++ (nl ++ R)).size = R := by
    rw [← ByteArray.append_assoc]
    exact ByteArray.extract_append_eq_right (by rw [ByteArray.size_append]) (by rw [ByteArray.size_append])
  have hc := Lib.countB_hit (A ++ (nl ++ R)) nl A.size (by omega) hi
  rw [hext] at hc
  refine ⟨hc, ?_⟩
  rw [hc, Nat.add_comm, Lib.splitB_hit nl 0 _ _ A.size hi, hext, Nat.add_zero, ByteArray.extract_append_eq_left rfl]

theorem split_end {R : ByteArray} (hR : NoNl R) : Lib.splitB nl 0 (Lib.countB R nl) R = [R] :=
  Lib.splitB_miss nl 0 _ R (by show Lib.index R.data.toList [10] = _; exact index_no _ hR)

/-! the rows -/
def cellsL (c : ByteArray) (w : Int) : Nat → Int → List ByteArray
  | 0, _ => [⟨#[]⟩]
  | d + 1, y => c.extract (y * w).toNat (y * w + w).toNat :: cellsL c w d (y + 1)

theorem cells_nonl {w h : Int} {c : ByteArray} (g : gridOk w h c = true) (i j : Nat) : NoNl (c.extract i j) := by
  intro b hb
  have hm : b ∈ c.data.toList := by
    rw [ByteArray.data_extract, Array.toList_extract] at hb
    exact List.mem_of_mem_drop (List.mem_of_mem_take hb)
  obtain ⟨k, hk, e⟩ := List.getElem_of_mem hm
  rw [sz_toList] at hk
  have hc := gridOk_cell g (i := (k : Int)) (by omega) (by omega)
  have hbt : bt c (k : Int) = (b.toNat : Int) := by
    unfold bt
    rw [dif_pos (by rw [Int.toNat_natCast]; exact hk)]
    have : c[(k : Int).toNat]'(by rw [Int.toNat_natCast]; exact hk) = b := by
      simp only [Int.toNat_natCast]
      rw [← e]
      rfl
    rw [this]
  rw [hbt] at hc
  intro hh
  subst hh
  revert hc
  decide

theorem rows_split {w h : Int} {c : ByteArray} (g : gridOk w h c = true) (d : Nat) : ∀ y : Int, Lib.splitB nl 0 (Lib.countB (rowsT c w d y) nl) (rowsT c w d y) = cellsL c w d y := by
  induction d with
  | zero => intro y; exact split_end (fun b hb => by cases hb)
  | succ d ih =>
    intro y
    have e : rowsT c w (d + 1) y = c.extract (y * w).toNat (y * w + w).toNat ++ (nl ++ rowsT c w d (y + 1)) := by
      show (c.extract (y * w).toNat (y * w + w).toNat ++ (⟨#[10]⟩ : ByteArray)) ++ rowsT c w d (y + 1) = _
      rw [ByteArray.append_assoc]
      rfl
    rw [e, (split_cons _ (cells_nonl g _ _)).2, ih]
    rfl

def lineH (h : Int) : ByteArray := (⟨#[104, 101, 105, 103, 104, 116, 32]⟩ : ByteArray) ++ dec h
def lineW (w : Int) : ByteArray := (⟨#[119, 105, 100, 116, 104, 32]⟩ : ByteArray) ++ dec w
def lineM : ByteArray := ⟨#[109, 97, 112]⟩

theorem dec_nonl {n : Int} (h0 : 1 ≤ n) (h1 : n ≤ 8) {p : ByteArray} (hp : NoNl p) : NoNl (p ++ dec n) := by
  intro b hb
  rw [ByteArray.data_append, Array.toList_append, List.mem_append] at hb
  rcases hb with hb | hb
  · exact hp b hb
  · rw [dec_one h0 h1] at hb
    have : b = UInt8.ofNat (48 + n.toNat) := by simpa using hb
    rw [this]
    obtain rfl | rfl | rfl | rfl | rfl | rfl | rfl | rfl : n = 1 ∨ n = 2 ∨ n = 3 ∨ n = 4 ∨ n = 5 ∨ n = 6 ∨ n = 7 ∨ n = 8 := by omega
    all_goals decide

theorem grid_lines (w h : Int) (c : ByteArray) : gridT w h c = lineH h ++ (nl ++ (lineW w ++ (nl ++ (lineM ++ (nl ++ rowsT c w h.toNat 0))))) := by
  have e1 : (⟨#[10, 119, 105, 100, 116, 104, 32]⟩ : ByteArray) = nl ++ (⟨#[119, 105, 100, 116, 104, 32]⟩ : ByteArray) := rfl
  have e2 : (⟨#[10, 109, 97, 112, 10]⟩ : ByteArray) = nl ++ (lineM ++ nl) := rfl
  unfold gridT headT lineH lineW
  rw [e1, e2]
  simp only [ByteArray.append_assoc]

theorem grid_split {w h : Int} {c : ByteArray} (g : gridOk w h c = true) : Lib.splitB nl 0 (Lib.countB (gridT w h c) nl) (gridT w h c) = lineH h :: lineW w :: lineM :: cellsL c w h.toNat 0 := by
  obtain ⟨h1, h2, h3, h4, h5⟩ := gridOk_side g
  have n1 : NoNl (lineH h) := dec_nonl h3 h4 (fun b hb => by revert b; decide)
  have n2 : NoNl (lineW w) := dec_nonl h1 h2 (fun b hb => by revert b; decide)
  have n3 : NoNl lineM := fun b hb => by revert b; decide
  rw [grid_lines, (split_cons _ n1).2, (split_cons _ n2).2, (split_cons _ n3).2, rows_split g]

/-! the pieces' sizes -/
def tot : List ByteArray → Nat
  | [] => 0
  | x :: l => x.size + tot l
theorem tot_split (sep : ByteArray) (k : Nat) : ∀ s : ByteArray, tot (Lib.splitB sep 0 k s) ≤ s.size := by
  induction k with
  | zero => intro s; show s.size + 0 ≤ _; omega
  | succ k ih =>
    intro s
    unfold Lib.splitB
    split
    · show s.size + 0 ≤ _; omega
    · have := ih (s.extract ((Lib.indexB s sep).toNat + sep.size) s.size)
      show (s.extract 0 _).size + tot _ ≤ _
      rw [ByteArray.size_extract] at this ⊢
      omega
theorem tot_drop (l : List ByteArray) : ∀ n : Nat, tot (l.drop n) ≤ tot l := by
  induction l with
  | nil => intro n; rw [List.drop_nil]; exact Nat.le_refl _
  | cons x l ih =>
    intro n
    cases n with
    | zero => exact Nat.le_refl _
    | succ n => have := ih n; show tot (l.drop n) ≤ x.size + tot l; omega
theorem tot_get (l : List ByteArray) : ∀ n : Nat, (l.getD n ByteArray.empty).size ≤ tot l := by
  induction l with
  | nil => intro n; rw [List.getD_eq_getElem?_getD, List.getElem?_nil]; exact Nat.le_refl _
  | cons x l ih =>
    intro n
    cases n with
    | zero => show x.size ≤ x.size + tot l; omega
    | succ n => have := ih n; rw [List.getD_cons_succ]; show _ ≤ x.size + tot l; omega

theorem join_flat (l : List (List UInt8)) : Lib.join l [] = l.flatten := by
  unfold Lib.join
  induction l with
  | nil => rfl
  | cons x l ih =>
    cases l with
    | nil => simp [List.intercalate]
    | cons y l => rw [List.intercalate_cons_cons, ih]; simp
theorem joined_cons (x : ByteArray) (l : List ByteArray) : Go.Proofs.YtkaffmlppfppeaaDoor.MStr.joined (x :: l) (⟨#[]⟩ : ByteArray) = x.data.toList ++ Go.Proofs.YtkaffmlppfppeaaDoor.MStr.joined l (⟨#[]⟩ : ByteArray) := by
  unfold Go.Proofs.YtkaffmlppfppeaaDoor.MStr.joined
  show Lib.join _ [] = _ ++ Lib.join _ []
  rw [join_flat, join_flat, List.map_cons, List.flatten_cons]
theorem joined_len (l : List ByteArray) : (Go.Proofs.YtkaffmlppfppeaaDoor.MStr.joined l (⟨#[]⟩ : ByteArray)).length = tot l := by
  induction l with
  | nil => rfl
  | cons x l ih => rw [joined_cons, List.length_append, ih, sz_toList]; rfl

/-- the rows' cells, joined -/
theorem joined_cells {w h : Int} {c : ByteArray} (g : gridOk w h c = true) (d : Nat) : ∀ y : Nat, (y : Int) + d = h → Go.Proofs.YtkaffmlppfppeaaDoor.MStr.joined (cellsL c w d y) (⟨#[]⟩ : ByteArray) = (c.extract ((y : Int) * w).toNat c.size).data.toList := by
  obtain ⟨h1, h2, h3, h4, h5⟩ := gridOk_side g
  induction d with
  | zero =>
    intro y hy
    have e : ((y : Int) * w).toNat = c.size := by
      have : (y : Int) * w = w * h := by rw [show (y : Int) = h by omega, Int.mul_comm]
      omega
    show Go.Proofs.YtkaffmlppfppeaaDoor.MStr.joined [⟨#[]⟩] (⟨#[]⟩ : ByteArray) = _
    rw [joined_cons, e, ByteArray.data_extract, Array.toList_extract]
    simp
    rfl
  | succ d ih =>
    intro y hy
    obtain ⟨r0, r1, r2, w1, w8, h8⟩ := row_in g (y := (y : Int)) (by omega) (by omega)
    have hn := ih (y + 1) (by omega)
    have e : ((y + 1 : Nat) : Int) * w = (y : Int) * w + w := by rw [show ((y + 1 : Nat) : Int) = (y : Int) + 1 from rfl, Int.add_mul, Int.one_mul]
    rw [e] at hn
    show Go.Proofs.YtkaffmlppfppeaaDoor.MStr.joined (c.extract ((y : Int) * w).toNat ((y : Int) * w + w).toNat :: cellsL c w d ((y : Int) + 1)) (⟨#[]⟩ : ByteArray) = _
    rw [joined_cons, show ((y : Int) + 1) = ((y + 1 : Nat) : Int) from rfl, hn, ← Array.toList_append, ← ByteArray.data_append, ByteArray.extract_append_extract]
    rw [Nat.min_eq_left (by omega), Nat.max_eq_right (by omega)]

theorem cells_whole {w h : Int} {c : ByteArray} (g : gridOk w h c = true) : (⟨(Go.Proofs.YtkaffmlppfppeaaDoor.MStr.joined (cellsL c w h.toNat 0) (⟨#[]⟩ : ByteArray)).toArray⟩ : ByteArray) = c := by
  have := joined_cells g h.toNat 0 (by have := (gridOk_side g).2.2.1; omega)
  rw [show ((0 : Nat) : Int) = 0 from rfl] at this
  rw [this, Int.zero_mul]
  show (⟨(c.extract 0 c.size).data.toList.toArray⟩ : ByteArray) = c
  rw [ByteArray.extract_zero_size]

/-! impl.ReadGrid -/
def readIs (t : ByteArray) (r : Int × Int × ByteArray × Bool) : Prop :=
  (∃ w h c, gridOk w h c = true ∧ t = gridT w h c ∧ r = (w, h, c, true)) ∨ ((∀ w h c, gridOk w h c = true → t ≠ gridT w h c) ∧ r = (0, 0, (⟨#[]⟩ : ByteArray), false))

theorem rows_size {w h : Int} {c : ByteArray} (g : gridOk w h c = true) (d : Nat) : ∀ y : Nat, (y : Int) + d = h → ((rowsT c w d y).size : Int) = d * (w + 1) := by
  obtain ⟨h1, h2, h3, h4, h5⟩ := gridOk_side g
  induction d with
  | zero => intro y _; rw [show ((0 : Nat) : Int) = 0 from rfl, Int.zero_mul]; rfl
  | succ d ih =>
    intro y hy
    obtain ⟨r0, r1, r2, w1, w8, h8⟩ := row_in g (y := (y : Int)) (by omega) (by omega)
    have hn := ih (y + 1) (by omega)
    show (((rowT c w y ++ rowsT c w d ((y : Int) + 1)).size : Nat) : Int) = _
    rw [show ((y : Int) + 1) = ((y + 1 : Nat) : Int) from rfl, ByteArray.size_append, Int.natCast_add, hn]
    unfold rowT
    rw [ByteArray.size_append, ByteArray.size_extract, size1, show ((d + 1 : Nat) : Int) = (d : Int) + 1 from rfl, Int.add_mul, Int.one_mul]
    omega
theorem grid_size {w h : Int} {c : ByteArray} (g : gridOk w h c = true) : ((gridT w h c).size : Int) = 21 + h * (w + 1) ∧ (gridT w h c).size ≤ 93 := by
  obtain ⟨h1, h2, h3, h4, h5⟩ := gridOk_side g
  have hr := rows_size g h.toNat 0 (by omega)
  rw [show ((h.toNat : Nat) : Int) = h by omega, show ((0 : Nat) : Int) = 0 from rfl] at hr
  have e : (gridT w h c).size = (headT (dec h) (dec w)).size + (rowsT c w h.toNat 0).size := by unfold gridT; rw [ByteArray.size_append]
  have b : h * (w + 1) ≤ 8 * 9 := Int.mul_le_mul (by omega) (by omega) (by omega) (by omega)
  rw [head_size, dec_size h3 h4, dec_size h1 h2] at e
  omega

theorem trim_len (s p : List UInt8) : (Lib.trimPrefix s p).length ≤ s.length := by
  unfold Lib.trimPrefix
  split
  · rw [List.length_drop]; omega
  · exact Nat.le_refl _
theorem trim_of (p x : ByteArray) : (⟨(Lib.trimPrefix (p ++ x).data.toList p.data.toList).toArray⟩ : ByteArray) = x := by
  have e : (p ++ x).data.toList = p.data.toList ++ x.data.toList := by rw [ByteArray.data_append, Array.toList_append]
  have hp : Lib.hasPrefix (p.data.toList ++ x.data.toList) p.data.toList = true := by
    unfold Lib.hasPrefix
    rw [List.isPrefixOf_iff_prefix]
    exact List.prefix_append _ _
  unfold Lib.trimPrefix
  rw [e, if_pos hp, List.drop_left]

theorem rd_ev (s : ByteArray) (hs : s.size ≤ 281474976710656) : ∃ r, Ev (fun k => impl_ReadDecimal.f k s) r ∧ Go.Proofs.YtkaffmlppfppeaaDoor.MReadDecimal.Is s.data.toList r := by
  obtain ⟨r, hf, hr⟩ := Go.Proofs.YtkaffmlppfppeaaDoor.MReadDecimal.spec s
  refine ⟨r, Ev.of (fun k => impl_ReadDecimal.mono s k) (k := 60) ?_, hr⟩
  unfold impl_ReadDecimal.f
  rw [if_pos hs, hf]
  rfl
theorem rd_dec {n : Int} (h0 : 1 ≤ n) (h1 : n ≤ 8) {r : Int × Bool} (h : Go.Proofs.YtkaffmlppfppeaaDoor.MReadDecimal.Is (dec n).data.toList r) : r = (n, true) := by
  obtain ⟨u, rfl⟩ : ∃ u : Nat, n = u := ⟨n.toNat, by omega⟩
  exact h.unique (.inl ⟨u, by omega, rfl, rfl⟩)

theorem iReadGrid (t : ByteArray) : ∃ r, Ev (fun k => impl_ReadGrid.f k t) r ∧ readIs t r := by
  have no : t.size > 93 → ∀ w h c, gridOk w h c = true → t ≠ gridT w h c := fun ht w h c g e => by
    have := (grid_size g).2
    rw [← e] at this
    omega
  by_cases hbig : (t.size : Int) > 20000
  · exact ⟨_, Ev.of_eq fun k => by unfold impl_ReadGrid.f; rw [if_pos hbig], .inr ⟨no (by omega), rfl⟩⟩
  have hs : t.size ≤ 20000 := by omega
  have htot := tot_split nl (Lib.countB t nl) t
  have hsplit : Go.Proofs.YtkaffmlppfppeaaDoor.MStr.strings_Split.f t (⟨#[10]⟩ : ByteArray) = some (Lib.splitB nl 0 (Lib.countB t nl) t) := by
    unfold Go.Proofs.YtkaffmlppfppeaaDoor.MStr.strings_Split.f
    exact if_pos ⟨by omega, by decide⟩
  have hgrid : ∀ w h c, gridOk w h c = true → t = gridT w h c → Lib.splitB nl 0 (Lib.countB t nl) t = lineH h :: lineW w :: lineM :: cellsL c w h.toNat 0 := fun w h c g e => by rw [e]; exact grid_split g
  generalize Lib.splitB nl 0 (Lib.countB t nl) t = ls at htot hsplit hgrid
  have e0 : rdOf ByteArray.empty ls 0 = ls.getD 0 ByteArray.empty := rfl
  have e1 : rdOf ByteArray.empty ls 1 = ls.getD 1 ByteArray.empty := rfl
  by_cases h3 : (ls.length : Int) < 3
  · refine ⟨_, Ev.of_eq fun k => by unfold impl_ReadGrid.f; rw [if_neg hbig, hsplit, Option.bind_some, if_pos h3], .inr ⟨fun w h c g e => ?_, rfl⟩⟩
    have := hgrid w h c g e
    rw [this] at h3
    simp only [List.length_cons] at h3
    omega
  have g0 := tot_get ls 0
  have g1 := tot_get ls 1
  have g3 := tot_drop ls 3
  obtain ⟨p0, hp0⟩ : ∃ p : ByteArray, p = ⟨(Lib.trimPrefix (ls.getD 0 ByteArray.empty).data.toList (⟨#[104, 101, 105, 103, 104, 116, 32]⟩ : ByteArray).data.toList).toArray⟩ := ⟨_, rfl⟩
  obtain ⟨p1, hp1⟩ : ∃ p : ByteArray, p = ⟨(Lib.trimPrefix (ls.getD 1 ByteArray.empty).data.toList (⟨#[119, 105, 100, 116, 104, 32]⟩ : ByteArray).data.toList).toArray⟩ := ⟨_, rfl⟩
  have s0 : p0.size ≤ 281474976710656 := by
    have := trim_len (ls.getD 0 ByteArray.empty).data.toList (⟨#[104, 101, 105, 103, 104, 116, 32]⟩ : ByteArray).data.toList
    rw [sz_toList] at this
    rw [hp0]
    show (Lib.trimPrefix _ _).toArray.size ≤ _
    rw [List.size_toArray]
    omega
  have s1 : p1.size ≤ 281474976710656 := by
    have := trim_len (ls.getD 1 ByteArray.empty).data.toList (⟨#[119, 105, 100, 116, 104, 32]⟩ : ByteArray).data.toList
    rw [sz_toList] at this
    rw [hp1]
    show (Lib.trimPrefix _ _).toArray.size ≤ _
    rw [List.size_toArray]
    omega
  obtain ⟨⟨n0, b0⟩, hr0, is0⟩ := rd_ev p0 s0
  obtain ⟨⟨n1, b1⟩, hr1, is1⟩ := rd_ev p1 s1
  obtain ⟨cs, hcs⟩ : ∃ cs : ByteArray, cs = ⟨(Go.Proofs.YtkaffmlppfppeaaDoor.MStr.joined (ls.drop 3) (⟨#[]⟩ : ByteArray)).toArray⟩ := ⟨_, rfl⟩
  have hlen : ∀ l : List ByteArray, l.length ≤ ls.length → l.length ≤ 140737488355328 := fun l hl => by
    have := Lib.splitB_length_le nl 0 (Lib.countB t nl) t
    have hc := Lib.countB_le nl (by decide) t.size t (Nat.le_refl _)
    have e : ls = Lib.splitB nl 0 (Lib.countB t nl) t := by
      have h1 := hsplit
      unfold Go.Proofs.YtkaffmlppfppeaaDoor.MStr.strings_Split.f at h1
      have h2 : t.size < 4294967281 ∧ 1 ≤ (⟨#[10]⟩ : ByteArray).size := ⟨by omega, by decide⟩
      rw [if_pos h2] at h1
      exact (Option.some.inj h1).symm
    rw [← e] at this
    omega
  have hjoin : Go.Proofs.YtkaffmlppfppeaaDoor.MStr.strings_Join.f (ls.drop 3) (⟨#[]⟩ : ByteArray) = some cs := by
    unfold Go.Proofs.YtkaffmlppfppeaaDoor.MStr.strings_Join.f
    rw [if_pos ⟨hlen _ (by rw [List.length_drop]; omega), by rw [joined_len]; omega⟩, hcs]
  have htext := iText n1 n0 cs
  have walk : ∀ r, (Ev (fun k => (impl_GridText.f k n1 n0 cs).bind fun bt => (if bt.2 = true then (if bt.1.toList = t.toList then (some (n1, n0, cs, true)) else (some (0, 0, (⟨#[]⟩ : ByteArray), false))) else (some (0, 0, (⟨#[]⟩ : ByteArray), false)))) r) → Ev (fun k => impl_ReadGrid.f k t) r := fun r hr => by
    have t0 : Go.Proofs.YtkaffmlppfppeaaDoor.MStr.strings_TrimPrefix.f (rdOf ByteArray.empty ls 0) (⟨#[104, 101, 105, 103, 104, 116, 32]⟩ : ByteArray) = some p0 := by rw [hp0]; rfl
    have t1 : Go.Proofs.YtkaffmlppfppeaaDoor.MStr.strings_TrimPrefix.f (rdOf ByteArray.empty ls 1) (⟨#[119, 105, 100, 116, 104, 32]⟩ : ByteArray) = some p1 := by rw [hp1]; rfl
    refine Ev.congr (fun k => by unfold impl_ReadGrid.f; rw [if_neg hbig, hsplit, Option.bind_some, if_neg h3, if_pos (show (0 : Int) < (ls.length : Int) by omega), t0, Option.bind_some]) (Ev.bind hr0 ?_)
    refine Ev.congr (fun k => by dsimp only; rw [if_pos (show (1 : Int) < (ls.length : Int) by omega), t1, Option.bind_some]) (Ev.bind hr1 ?_)
    exact Ev.congr (fun k => by dsimp only; rw [if_pos (show (3 : Int) ≤ (ls.length : Int) by omega), hjoin, Option.bind_some]) hr
  have tl : ∀ a b : ByteArray, a.toList = b.toList ↔ a = b := fun a b => ⟨fun e => by
    rw [ByteArray.toList_eq, ByteArray.toList_eq] at e
    exact ByteArray.ext (Array.toList_inj.1 e), fun e => by rw [e]⟩
  -- a grid of this text is the one that was parsed
  have only : ∀ w h c, gridOk w h c = true → t = gridT w h c → n1 = w ∧ n0 = h ∧ cs = c := fun w h c g e => by
    obtain ⟨h1, h2, h3', h4, h5⟩ := gridOk_side g
    have hl := hgrid w h c g e
    have q0 : p0 = dec h := by rw [hp0, hl]; exact trim_of _ _
    have q1 : p1 = dec w := by rw [hp1, hl]; exact trim_of _ _
    rw [q0] at is0
    rw [q1] at is1
    have r0 := rd_dec h3' h4 is0
    have r1 := rd_dec h1 h2 is1
    refine ⟨(Prod.mk.inj r1).1, (Prod.mk.inj r0).1, ?_⟩
    rw [hcs, hl]
    exact cells_whole g
  cases g : gridOk n1 n0 cs with
  | false =>
    rw [g, if_neg (by simp)] at htext
    refine ⟨_, walk _ (Ev.bind htext (Ev.of_eq fun k => by dsimp only; rw [if_neg (by simp)])), .inr ⟨fun w h c g' e => ?_, rfl⟩⟩
    obtain ⟨q1, q2, q3⟩ := only w h c g' e
    rw [q1, q2, q3, g'] at g
    cases g
  | true =>
    rw [g, if_pos rfl] at htext
    by_cases e : gridT n1 n0 cs = t
    · exact ⟨_, walk _ (Ev.bind htext (Ev.of_eq fun k => by dsimp only; rw [if_pos rfl, if_pos ((tl _ _).2 e)])), .inl ⟨n1, n0, cs, g, e.symm, rfl⟩⟩
    · refine ⟨_, walk _ (Ev.bind htext (Ev.of_eq fun k => by dsimp only; rw [if_pos rfl, if_neg (fun hh => e ((tl _ _).1 hh))])), .inr ⟨fun w h c g' e' => ?_, rfl⟩⟩
      obtain ⟨q1, q2, q3⟩ := only w h c g' e'
      rw [q1, q2, q3] at e
      exact e e'.symm

theorem iReadGrid_of {w h : Int} {c : ByteArray} (g : gridOk w h c = true) : Ev (fun k => impl_ReadGrid.f k (gridT w h c)) (w, h, c, true) := by
  obtain ⟨r, hr, hi⟩ := iReadGrid (gridT w h c)
  rcases hi with ⟨w', h', c', g', e, rfl⟩ | ⟨hn, _⟩
  · have := hr
    -- the text tells the grid: both are cut into the same lines
    have l1 := grid_split g
    have l2 := grid_split g'
    rw [← e, l1] at l2
    obtain ⟨q1, q2⟩ := List.cons.inj l2
    obtain ⟨q3, q4⟩ := List.cons.inj q2
    obtain ⟨_, q5⟩ := List.cons.inj q4
    obtain ⟨h1, h2, h3, h4, _⟩ := gridOk_side g
    obtain ⟨h1', h2', h3', h4', _⟩ := gridOk_side g'
    have dinj : ∀ {a b : Int}, 1 ≤ a → a ≤ 8 → 1 ≤ b → b ≤ 8 → dec a = dec b → a = b := fun {a b} a0 a1 b0 b1 hd => by
      rw [dec_one a0 a1, dec_one b0 b1] at hd
      have hd2 : UInt8.ofNat (48 + a.toNat) = UInt8.ofNat (48 + b.toNat) := by simpa using hd
      have hd3 := congrArg UInt8.toNat hd2
      rw [UInt8.toNat_ofNat', UInt8.toNat_ofNat'] at hd3
      omega
    have eh : h = h' := dinj h3 h4 h3' h4' ((ByteArray.append_right_inj _).1 q1)
    have ew : w = w' := dinj h1 h2 h1' h2' ((ByteArray.append_right_inj _).1 q3)
    subst eh
    subst ew
    have ec : c = c' := by
      have a := cells_whole g
      have b := cells_whole g'
      rw [q5] at a
      exact a.symm.trans b
    rw [ec]
    rw [ec] at hr
    exact hr
  · exact absurd rfl (hn w h c g)

/-! the cells of a map with the given ones walled -/
def WallIs (c : ByteArray) (p : Int → Bool) (r : List Int) : Prop := r.length = c.size ∧ ∀ j : Nat, j < c.size → r.getD j 0 = if p (j : Int) = true then 35 else (bytesOf c).getD j 0

theorem WallIs.unique {c : ByteArray} {p q : Int → Bool} {r s : List Int} (a : WallIs c p r) (b : WallIs c q s) (h : ∀ j : Nat, j < c.size → p (j : Int) = q (j : Int)) : r = s := by
  refine list_eq (by rw [a.1, b.1]) (fun j hj => ?_)
  have hj1 : j < c.size := by rw [← a.1]; exact hj
  have hj2 : j < s.length := by rw [b.1]; exact hj1
  have e : r.getD j 0 = s.getD j 0 := by rw [a.2 j hj1, b.2 j hj1, h j hj1]
  rw [List.getD_eq_getElem?_getD, List.getD_eq_getElem?_getD, List.getElem?_eq_getElem hj, List.getElem?_eq_getElem hj2] at e
  rw [List.getElem?_eq_getElem hj, List.getElem?_eq_getElem hj2]
  simpa using e

theorem WallIs.set {c : ByteArray} {p q : Int → Bool} {r : List Int} (a : WallIs c p r) {i : Nat} (hi : i < c.size) (h : ∀ j : Nat, j < c.size → q (j : Int) = (decide (j = i) || p (j : Int))) : WallIs c q (r.set i 35) := by
  refine ⟨by rw [List.length_set]; exact a.1, fun j hj => ?_⟩
  rw [getD_set _ _ _ _ _ (by rw [a.1]; exact hi), h j hj, a.2 j hj]
  by_cases e : j = i
  · rw [if_pos e, decide_eq_true e, Bool.true_or, if_pos rfl]
  · rw [if_neg e, decide_eq_false e, Bool.false_or]

theorem WallIs.congr {c : ByteArray} {p q : Int → Bool} {r : List Int} (a : WallIs c p r) (h : ∀ j : Nat, j < c.size → q (j : Int) = p (j : Int)) : WallIs c q r :=
  ⟨a.1, fun j hj => by rw [a.2 j hj, h j hj]⟩

theorem WallIs.start (c : ByteArray) : WallIs c (fun _ => false) (bytesOf c) := ⟨bytesOf_length c, fun j _ => by rw [if_neg (by simp)]⟩

/-! slices.Contains -/
theorem index_l0 (xs : List Int) (v : Int) (hx : xs.length ≤ 1048576) (d : Nat) : ∀ i : Nat, i + d = xs.length → ∃ r, Ev (fun k => slices_Index_int_int.l0 k xs v (xs.length : Int) i) r ∧ decide (r ≥ 0) = (xs.drop i).contains v := by
  induction d with
  | zero =>
    intro i h
    have : xs.drop i = [] := List.drop_eq_nil_of_le (by omega)
    rw [this]
    exact ⟨-1, Ev.step (f := fun _ => some (-1)) (fun k => by rw [slices_Index_int_int.l0, if_neg (by omega)]) (Ev.now _), rfl⟩
  | succ d ih =>
    intro i h
    have e : rd xs (i : Int) = xs.getD i 0 := by unfold rd; rw [Int.toNat_natCast]
    have hw : wrap64 ((i : Int) + 1) = ((i + 1 : Nat) : Int) := by rw [w64 (by omega) (by omega)]; omega
    rw [drop_cons xs i 0 (by omega), List.contains_cons]
    by_cases hv : v = xs.getD i 0
    · rw [beq_iff_eq.mpr hv, Bool.true_or]
      exact ⟨i, Ev.step (f := fun _ => some (i : Int)) (fun k => by rw [slices_Index_int_int.l0, if_pos (by omega), if_pos (by omega), if_pos (by omega), e, if_pos hv]) (Ev.now _), by simp⟩
    · rw [beq_eq_false_iff_ne.mpr hv, Bool.false_or]
      obtain ⟨r, hr, hd⟩ := ih (i + 1) (by omega)
      exact ⟨r, Ev.step (fun k => by rw [slices_Index_int_int.l0, if_pos (by omega), if_pos (by omega), if_pos (by omega), e, if_neg hv, hw]) hr, hd⟩

theorem contains_ev (xs : List Int) (v : Int) (hx : xs.length ≤ 1048576) : Ev (fun k => slices_Contains_int_int.f k xs v) (xs.contains v) := by
  obtain ⟨r, hr, hd⟩ := index_l0 xs v hx xs.length 0 (Nat.zero_add _)
  rw [List.drop_zero] at hd
  rw [show ((0 : Nat) : Int) = 0 from rfl] at hr
  rw [← hd]
  exact Ev.bind hr (Ev.now _)

/-! impl.Walled -/
theorem iWalled_l0 {c : ByteArray} (hc : c.size ≤ 64) (w h : Int) (xs : List Int) (hx : xs.length ≤ 1048576) (d : Nat) : ∀ (i : Nat) (r : List Int), i + d = c.size → WallIs c (fun v => decide (v < (i : Int)) && xs.contains v) r →
    ∃ s, Ev (fun k => impl_Walled.l0 k xs r (c.size : Int) i w h c) (w, h, strOfNums s) ∧ WallIs c (fun v => xs.contains v) s := by
  induction d with
  | zero =>
    intro i r hi hr
    exact ⟨r, Ev.step (f := fun _ => some _) (fun k => by rw [impl_Walled.l0, if_neg (by omega)]) (Ev.now _), hr.congr (fun j hj => by
      show _ = (decide ((j : Int) < (i : Int)) && _)
      rw [decide_eq_true (by omega), Bool.true_and])⟩
  | succ d ih =>
    intro i r hi hr
    have hic : i < c.size := by omega
    have hw : wrap64 ((i : Int) + 1) = ((i + 1 : Nat) : Int) := by rw [w64 (by omega) (by omega)]; omega
    have hlen := hr.1
    have l1 : (i : Int) < (c.size : Int) := by omega
    have l2 : (0 : Int) ≤ (i : Int) := by omega
    have l3 : (i : Int) < (r.length : Int) := by omega
    have hcon := contains_ev xs (i : Int) hx
    cases hb : xs.contains (i : Int) with
    | true =>
      rw [hb] at hcon
      obtain ⟨s, q1, q2⟩ := ih (i + 1) (r.set i 35) (by omega) (hr.set hic (fun j hj => by
        show (decide ((j : Int) < ((i + 1 : Nat) : Int)) && _) = _
        by_cases h3 : j = i
        · subst h3; rw [decide_eq_true (by omega), hb, decide_eq_true rfl]; rfl
        · rw [decide_eq_false h3, Bool.false_or]
          by_cases h4 : (j : Int) < (i : Int)
          · rw [decide_eq_true h4, decide_eq_true (by omega)]
          · rw [decide_eq_false h4, decide_eq_false (by omega)]))
      exact ⟨s, Ev.step (fun k => by rw [impl_Walled.l0, if_pos l1]) (Ev.bind hcon (Ev.congr (fun k => by rw [if_pos rfl, if_pos l2, if_pos l3, hw, Int.toNat_natCast]) q1)), q2⟩
    | false =>
      rw [hb] at hcon
      obtain ⟨s, q1, q2⟩ := ih (i + 1) r (by omega) (hr.congr (fun j hj => by
        show (decide ((j : Int) < ((i + 1 : Nat) : Int)) && _) = (decide ((j : Int) < (i : Int)) && _)
        by_cases h3 : j = i
        · subst h3; rw [hb, Bool.and_false, Bool.and_false]
        · by_cases h4 : (j : Int) < (i : Int)
          · rw [decide_eq_true h4, decide_eq_true (by omega)]
          · rw [decide_eq_false h4, decide_eq_false (by omega)]))
      exact ⟨s, Ev.step (fun k => by rw [impl_Walled.l0, if_pos l1]) (Ev.bind hcon (Ev.congr (fun k => by rw [if_neg (by simp), hw]) q1)), q2⟩

theorem iWalled (w h : Int) (c : ByteArray) (xs : List Int) (hx : xs.length ≤ 1048576) : (gridOk w h c = false ∧ Ev (fun k => impl_Walled.f k w h c xs) (w, h, c)) ∨ (gridOk w h c = true ∧ ∃ s, Ev (fun k => impl_Walled.f k w h c xs) (w, h, strOfNums s) ∧ WallIs c (fun v => xs.contains v) s) := by
  have hg := iGridOk w h c
  cases g : gridOk w h c with
  | false =>
    rw [g] at hg
    exact .inl ⟨rfl, Ev.bind hg (Ev.of_eq fun k => by rw [if_neg (by simp)])⟩
  | true =>
    rw [g] at hg
    have hc := gridOk_size g
    obtain ⟨s, q1, q2⟩ := iWalled_l0 hc.2 w h xs hx c.size 0 (bytesOf c) (Nat.zero_add _) ((WallIs.start c).congr (fun j hj => by
      show (decide ((j : Int) < ((0 : Nat) : Int)) && _) = false
      rw [decide_eq_false (by omega), Bool.false_and]))
    rw [show ((0 : Nat) : Int) = 0 from rfl] at q1
    exact .inr ⟨rfl, s, Ev.bind hg (Ev.congr (fun k => by rw [if_pos rfl, if_pos (by omega), if_pos (by omega), Option.bind_some, bytesOf_length]) q1), q2⟩

/-! impl.isFree -/
theorem isFree_eq {w h : Int} {c : ByteArray} (g : gridOk w h c = true) (x : Int) : impl_isFree.f w h c x = some (freeAt w h c x) := by
  unfold freeAt impl_isFree.f
  rw [g]
  simp only [Bool.true_and]
  by_cases h0 : x ≥ 0
  · by_cases h1 : x < (c.size : Int)
    · rw [if_pos h0, if_pos h1, if_pos (by omega), decide_eq_true (show 0 ≤ x ∧ x < (c.size : Int) from ⟨h0, h1⟩), Bool.true_and]
      congr 1
      rw [Bool.eq_iff_iff, bne_iff_ne, decide_eq_true_eq]
    · rw [if_pos h0, if_neg h1, decide_eq_false (fun hh : 0 ≤ x ∧ x < (c.size : Int) => h1 hh.2)]
      rfl
  · rw [if_neg h0, decide_eq_false (fun hh : 0 ≤ x ∧ x < (c.size : Int) => h0 hh.1)]
    rfl

/-! impl.FreeAt -/
theorem iFreeAt (w h : Int) (c : ByteArray) (x : Int) : Ev (fun k => impl_FreeAt.f k w h c x) (freeAt w h c x) := by
  refine Ev.bind (iGridOk w h c) ?_
  cases hg : gridOk w h c with
  | false => simp only [Bool.false_eq_true, if_false, freeAt, hg, Bool.false_and]; exact Ev.now _
  | true => simp only [if_true, isFree_eq hg, Option.bind_some]; exact Ev.now _

/-! impl.FreeCells -/
theorem iFree_l0 {w h : Int} {c : ByteArray} (g : gridOk w h c = true) (d : Nat) : ∀ (i : Int) (acc : List Int), 0 ≤ i → i + d = c.size → acc.length + d ≤ 100 →
    Ev (fun k => impl_FreeCells.l0 k acc i w h c) (acc ++ freeList c d i) := by
  have hs := gridOk_size g
  induction d with
  | zero =>
    intro i acc h0 h1 h2
    rw [freeList, List.append_nil]
    exact Ev.step (f := fun _ => some acc) (fun k => by rw [impl_FreeCells.l0, if_neg (by omega)]) (Ev.now _)
  | succ d ih =>
    intro i acc h0 h1 h2
    have hw : wrap64 (i + 1) = i + 1 := w64 (by omega) (by omega)
    rw [freeList]
    by_cases hb : bt c i ≠ 35
    · rw [if_pos hb, ← List.append_assoc]
      exact Ev.step (fun k => by rw [impl_FreeCells.l0, if_pos (by omega), isFree_eq g, freeAt_in g h0 (by omega), decide_eq_true hb, Option.bind_some, if_pos rfl, if_pos (by omega), hw]) (ih (i + 1) (acc ++ [i]) (by omega) (by omega) (by simp; omega))
    · rw [if_neg hb, List.nil_append]
      exact Ev.step (fun k => by rw [impl_FreeCells.l0, if_pos (by omega), isFree_eq g, freeAt_in g h0 (by omega), decide_eq_false hb, Option.bind_some, if_neg (by simp), hw]) (ih (i + 1) acc (by omega) (by omega) (by omega))

theorem iFreeCells (w h : Int) (c : ByteArray) : Ev (fun k => impl_FreeCells.f k w h c) (freeCells w h c) := by
  refine Ev.bind (iGridOk w h c) ?_
  unfold freeCells
  cases g : gridOk w h c with
  | false => exact Ev.of_eq fun k => by rw [if_neg (by simp), if_neg (by simp)]
  | true =>
    rw [if_pos rfl]
    have hs := gridOk_size g
    have h0 := iFree_l0 g c.size 0 [] (by omega) (by omega) (by simp; omega)
    rw [List.nil_append] at h0
    exact Ev.congr (fun k => by rw [if_pos rfl]) h0

end Go.Proofs.YtkaffmlppfppeaaDoor.QFnMaps
end

namespace Go.Proofs.YtkaffmlppfppeaaDoor.Pure
open Go.RowKit Go.Proofs.YtkaffmlppfppeaaDoor.PFnMaps Go.Proofs.YtkaffmlppfppeaaDoorW.PrintWords Go.Proofs.YtkaffmlppfppeaaDoorW.PrintLast Go.Proofs.YtkaffmlppfppeaaDoorW.PrintMore Go.Proofs.YtkaffmlppfppeaaDoor.MBase Go.Proofs.YtkaffmlppfppeaaDoor.MDraw Go.Proofs.YtkaffmlppfppeaaDoor.MGrid Go.Proofs.YtkaffmlppfppeaaDoor.MLists Go.Proofs.YtkaffmlppfppeaaDoor.MSteps Go.Proofs.YtkaffmlppfppeaaDoor.QFnMaps
set_option linter.unusedVariables false
set_option linter.unusedSimpArgs false

theorem up_eq : ∀ (a b : List Int), a.Pairwise (· < ·) → b.Pairwise (· < ·) → (∀ z, z ∈ a ↔ z ∈ b) → a = b
  | [], [], _, _, _ => rfl
  | [], y :: b, _, _, h => absurd ((h y).2 List.mem_cons_self) List.not_mem_nil
  | x :: a, [], _, _, h => absurd ((h x).1 List.mem_cons_self) List.not_mem_nil
  | x :: a, y :: b, ha, hb, h => by
    obtain ⟨ha1, ha2⟩ := List.pairwise_cons.1 ha
    obtain ⟨hb1, hb2⟩ := List.pairwise_cons.1 hb
    have e : x = y := by
      rcases List.mem_cons.1 ((h x).1 List.mem_cons_self) with e | e
      · exact e
      · rcases List.mem_cons.1 ((h y).2 List.mem_cons_self) with e' | e'
        · exact e'.symm
        · have h1 := hb1 x e
          have h2 := ha1 y e'
          omega
    subst e
    rw [up_eq a b ha2 hb2 (fun z => ⟨fun hz => by
      rcases List.mem_cons.1 ((h z).1 (List.mem_cons_of_mem _ hz)) with e | e
      · have := ha1 z hz
        omega
      · exact e, fun hz => by
      rcases List.mem_cons.1 ((h z).2 (List.mem_cons_of_mem _ hz)) with e | e
      · have := hb1 z hz
        omega
      · exact e⟩)]

theorem bt_nums (s : List Int) (j : Nat) (hj : j < s.length) (h0 : 0 ≤ s.getD j 0) (h1 : s.getD j 0 ≤ 255) : bt (strOfNums s) (j : Int) = s.getD j 0 := by
  rw [← rd_bytesOf]
  unfold rd bytesOf
  rw [Int.toNat_natCast, strOfNums_data, List.map_map, List.getD_eq_getElem?_getD, List.getElem?_map, List.getElem?_eq_getElem hj]
  rw [List.getD_eq_getElem?_getD, List.getElem?_eq_getElem hj] at h0 h1 ⊢
  simp only [Option.map_some, Option.getD_some, Function.comp] at h0 h1 ⊢
  rw [UInt8.toNat_ofNat']
  omega

theorem wall_bt {c : ByteArray} {p : Int → Bool} {s : List Int} (h : WallIs c p s) (j : Nat) (hj : j < c.size) : bt (strOfNums s) (j : Int) = if p (j : Int) = true then 35 else bt c (j : Int) := by
  have e := h.2 j hj
  have eb : (bytesOf c).getD j 0 = bt c (j : Int) := by
    rw [← rd_bytesOf]; unfold rd; rw [Int.toNat_natCast]
  have hr := bt_range c (j : Int)
  rw [eb] at e
  rw [bt_nums s j (by rw [h.1]; exact hj) (by rw [e]; split <;> omega) (by rw [e]; split <;> omega), e]

theorem wall_ok {w h : Int} {c : ByteArray} {p : Int → Bool} {s : List Int} (g : gridOk w h c = true) (hs : WallIs c p s) : gridOk w h (strOfNums s) = true := by
  have ez : (strOfNums s).size = c.size := by rw [strOfNums_size, hs.1]
  obtain ⟨h1, h2, h3, h4, h5⟩ := gridOk_side g
  unfold gridOk
  rw [Bool.and_eq_true, decide_eq_true_eq, cellsOk_iff]
  refine ⟨⟨h1, h2, h3, h4, by rw [ez]; exact h5⟩, fun j hj => ?_⟩
  rw [ez] at hj
  rw [Int.zero_add, wall_bt hs j hj]
  split
  · rfl
  · exact gridOk_cell g (by omega) (by omega)

theorem wall_free {w h : Int} {c : ByteArray} {p : Int → Bool} {s : List Int} (g : gridOk w h c = true) (hs : WallIs c p s) (j : Nat) (hj : j < c.size) : freeAt w h (strOfNums s) (j : Int) = (freeAt w h c (j : Int) && !p (j : Int)) := by
  have ez : (strOfNums s).size = c.size := by rw [strOfNums_size, hs.1]
  rw [freeAt_in (wall_ok g hs) (by omega) (by rw [ez]; omega), freeAt_in g (by omega) (by omega), wall_bt hs j hj]
  cases p (j : Int) with
  | true => rw [if_pos rfl, decide_eq_false (by omega)]; simp
  | false => rw [if_neg (by simp)]; simp

theorem wall_list {c : ByteArray} {p : Int → Bool} {s : List Int} (hs : WallIs c p s) (d : Nat) : ∀ j : Nat, j + d = c.size → freeList (strOfNums s) d j = (freeList c d j).filter (fun z => !p z) := by
  induction d with
  | zero => intro j _; rfl
  | succ d ih =>
    intro j hj
    have e := ih (j + 1) (by omega)
    rw [show ((j + 1 : Nat) : Int) = (j : Int) + 1 from rfl] at e
    rw [freeList, freeList, List.filter_append, e, wall_bt hs j (by omega)]
    congr 1
    cases hp : p (j : Int) with
    | true =>
      rw [if_pos rfl, if_neg (show ¬ ((35 : Int) ≠ 35) from fun hh => hh rfl)]
      split
      · rw [List.filter_cons, hp, if_neg (show ¬ ((!true) = true) by simp)]; rfl
      · rfl
    | false =>
      rw [if_neg (show ¬ (false = true) by simp)]
      split
      · rw [List.filter_cons, hp, if_pos (show (!false) = true from rfl)]; rfl
      · rfl

theorem filter_len (p : Int → Bool) (xs : List Int) : (xs.filter p).length + (xs.filter (fun z => !p z)).length = xs.length := by
  induction xs with
  | nil => rfl
  | cons x xs ih =>
    rw [List.filter_cons, List.filter_cons]
    cases hp : p x with
    | true => rw [if_pos rfl, if_neg (show ¬ ((!true) = true) by simp), List.length_cons, List.length_cons]; omega
    | false => rw [if_neg (show ¬ (false = true) by simp), if_pos (show (!false) = true from rfl), List.length_cons, List.length_cons]; omega

theorem maps_l1 (l : List Int) (n : Int) (j : Nat) (hl : l.length ≤ 64) (w h w' h' : Int) (c c' : ByteArray) (fin : Ev (fun k => laws_FnMaps.l1 k l n j (l.contains (j : Int)) (l.length : Int) w h c w' h' c') true) (d : Nat) :
    ∀ (i : Nat) (b : Bool), i + d = l.length → (b || (l.drop i).contains (j : Int)) = l.contains (j : Int) → Ev (fun k => laws_FnMaps.l1 k l n j b i w h c w' h' c') true := by
  induction d with
  | zero =>
    intro i b hi hb
    rw [List.drop_eq_nil_of_le (by omega)] at hb
    have eb : b = l.contains (j : Int) := by rw [← hb]; simp
    rw [eb, show i = l.length by omega]
    exact fin
  | succ d ih =>
    intro i b hi hb
    have hw : wrap64 ((i : Int) + 1) = ((i + 1 : Nat) : Int) := by rw [w64 (by omega) (by omega)]; omega
    have er : rd l (i : Int) = l.getD i 0 := by unfold rd; rw [Int.toNat_natCast]
    rw [drop_cons l i 0 (by omega), List.contains_cons] at hb
    have f1 : (i : Int) < (l.length : Int) := by omega
    have f2 : (0 : Int) ≤ (i : Int) := by omega
    by_cases e : l.getD i 0 = (j : Int)
    · have hr := ih (i + 1) true (by omega) (by rw [e, beq_self_eq_true, Bool.true_or, Bool.or_true] at hb; rw [← hb, Bool.true_or])
      exact Ev.step (fun k => by rw [laws_FnMaps.l1, if_pos f1, if_pos f2, er, if_pos e, hw]) hr
    · have hr := ih (i + 1) b (by omega) (by rw [beq_eq_false_iff_ne.2 (fun hh => e hh.symm), Bool.false_or] at hb; exact hb)
      exact Ev.step (fun k => by rw [laws_FnMaps.l1, if_pos f1, if_pos f2, er, if_neg e, hw]) hr

theorem maps_l0 (l : List Int) (hl : l.length ≤ 64) {w h : Int} {c : ByteArray} {s : List Int} (g : gridOk w h c = true) (hs : WallIs c (fun v => l.contains v) s) (hcnt : (freeList (strOfNums s) c.size 0).length + l.length = (freeList c c.size 0).length) (d : Nat) :
    ∀ (j : Nat) (n : Int), j + d = c.size → 0 ≤ n → n ≤ j → n + ((freeList c d j).length : Int) = ((freeList c c.size 0).length : Int) → Ev (fun k => laws_FnMaps.l0 k l n j w h c w h (strOfNums s)) true := by
  have hg := (gridOk_size g).2
  have ez : (strOfNums s).size = c.size := by rw [strOfNums_size, hs.1]
  have g' := wall_ok g hs
  induction d with
  | zero =>
    intro j n hj n0 n1 hn
    have e1 := iFreeCells w h c
    have e2 := iFreeCells w h (strOfNums s)
    unfold freeCells at e1 e2
    rw [if_pos g] at e1
    rw [if_pos g', ez] at e2
    rw [freeList] at hn
    rw [List.length_nil] at hn
    have f1 : ¬ (j : Int) < (c.size : Int) := by omega
    have f2 : ((freeList c c.size 0).length : Int) = n := by omega
    have f3 : ((freeList (strOfNums s) c.size 0).length : Int) = wrap64 (n - (l.length : Int)) := by rw [w64 (by omega) (by omega)]; omega
    refine Ev.step (fun k => by rw [laws_FnMaps.l0, if_neg f1]) (Ev.bind e1 (Ev.congr (fun k => by rw [if_pos f2]) (Ev.bind e2 ?_)))
    exact Ev.of_eq fun k => by rw [← f3, beq_self_eq_true]
  | succ d ih =>
    intro j n hj n0 n1 hn
    have hjc : j < c.size := by omega
    have f1 : (j : Int) < (c.size : Int) := by omega
    have f2 : (0 : Int) ≤ (j : Int) := by omega
    have f3 : (j : Int) < ((strOfNums s).size : Int) := by rw [ez]; exact f1
    have hw : wrap64 ((j : Int) + 1) = ((j + 1 : Nat) : Int) := by rw [w64 (by omega) (by omega)]; omega
    have hwn : wrap64 (n + 1) = n + 1 := w64 (by omega) (by omega)
    have hfr := freeAt_in g f2 f1
    have next : Ev (fun k => laws_FnMaps.j3 k l n j false w h c w h (strOfNums s)) true := by
      have e := iFreeAt w h c (j : Int)
      rw [hfr] at e
      rw [freeList, List.length_append] at hn
      rw [show ((j : Int) + 1) = ((j + 1 : Nat) : Int) from rfl] at hn
      by_cases hb : bt c (j : Int) ≠ 35
      · rw [decide_eq_true hb] at e
        rw [if_pos hb, List.length_singleton] at hn
        refine Ev.step (fun k => by rw [laws_FnMaps.j3, if_neg (by simp)]) (Ev.bind e ?_)
        exact Ev.congr (fun k => by rw [if_pos rfl, hw, hwn]) (ih (j + 1) (n + 1) (by omega) (by omega) (by omega) (by omega))
      · rw [decide_eq_false hb] at e
        rw [if_neg hb, List.length_nil] at hn
        refine Ev.step (fun k => by rw [laws_FnMaps.j3, if_neg (by simp)]) (Ev.bind e ?_)
        exact Ev.congr (fun k => by rw [if_neg (by simp), hw]) (ih (j + 1) n (by omega) (by omega) (by omega) (by omega))
    have wf := wall_free g hs j hjc
    have wb := wall_bt hs j hjc
    have fin : Ev (fun k => laws_FnMaps.l1 k l n j (l.contains (j : Int)) (l.length : Int) w h c w h (strOfNums s)) true := by
      have a1 := iFreeAt w h (strOfNums s) (j : Int)
      have a2 := iFreeAt w h c (j : Int)
      rw [wf] at a1
      refine Ev.step (fun k => by rw [laws_FnMaps.l1, if_neg (Int.lt_irrefl _)]) (Ev.bind a1 (Ev.bind a2 ?_))
      cases hc1 : freeAt w h c (j : Int) with
      | true =>
        rw [hc1] at a1
        refine Ev.congr (fun k => by rw [if_pos rfl, Bool.true_and, bne_self_eq_false, if_neg (by simp)]) (Ev.bind a1 ?_)
        cases hp : l.contains (j : Int) with
        | true => exact Ev.congr (fun k => by rw [if_neg (by simp)]) next
        | false =>
          rw [hp, if_neg (by simp)] at wb
          exact Ev.congr (fun k => by rw [if_pos (by simp), if_pos f2, if_pos f3, if_pos f1, wb, bne_self_eq_false]) next
      | false =>
        rw [hc1] at a1
        refine Ev.congr (fun k => by rw [if_neg (by simp), Bool.false_and, if_neg (by simp)]) (Ev.bind a1 ?_)
        exact Ev.congr (fun k => by rw [if_neg (by simp)]) next
    have hl1 := maps_l1 l n j hl w h w h c (strOfNums s) fin l.length 0 false (Nat.zero_add _) (by rw [List.drop_zero, Bool.false_or])
    exact Ev.step (fun k => by rw [laws_FnMaps.l0, if_pos f1]; rfl) hl1

theorem FnMaps : laws_FnMaps.Pure := by
  intro b hl _ _
  by_cases hbig : (b.length : Int) > 1048576
  · exact ⟨0, by unfold laws_FnMaps.f laws_big.f; rw [Option.bind_some, if_pos (decide_eq_true hbig)]⟩
  obtain ⟨w, h, c, l, g, hlen, hfree, hup, hdraw⟩ := drawSome_ev b hl
  have ht := iText w h c
  rw [if_pos g] at ht
  have hr := iReadGrid_of g
  rcases iWalled w h c l (by omega) with ⟨g', _⟩ | ⟨_, s, hw, hs⟩
  · rw [g] at g'; cases g'
  have g' := wall_ok g hs
  have hg := iGridOk w h (strOfNums s)
  rw [g'] at hg
  have hcnt : (freeList (strOfNums s) c.size 0).length + l.length = (freeList c c.size 0).length := by
    have e1 := wall_list hs c.size 0 (Nat.zero_add _)
    rw [show ((0 : Nat) : Int) = 0 from rfl] at e1
    have e2 := filter_len (fun z => l.contains z) (freeList c c.size 0)
    have e3 : (freeList c c.size 0).filter (fun z => l.contains z) = l := up_eq _ _ ((freeList_up c c.size 0).filter _) hup (fun z => by
      rw [List.mem_filter, List.contains_iff_mem]
      constructor
      · exact fun q => q.2
      · intro q
        have hz := mem_freeCells.2 (hfree z q)
        unfold freeCells at hz
        rw [if_pos g] at hz
        exact ⟨hz, q⟩)
    rw [e3] at e2
    rw [e1]
    omega
  have last := maps_l0 l hlen g hs hcnt c.size 0 0 (Nat.zero_add _) (by omega) (by omega) (by rw [show ((0 : Nat) : Int) = 0 from rfl]; omega)
  rw [show ((0 : Nat) : Int) = 0 from rfl] at last
  refine Ev.rounds (Ev.congr (fun k => by unfold laws_FnMaps.f laws_big.f; rw [Option.bind_some, if_neg (by rw [decide_eq_false hbig]; simp)]) (Ev.bind hdraw ?_))
  refine Ev.bind ht (Ev.bind hr ?_)
  refine Ev.congr (fun k => by dsimp only; rw [Option.bind_some, if_pos (by rw [List.length_nil]; omega), List.nil_append]) (Ev.bind hw ?_)
  refine Ev.congr (fun k => by dsimp only; rw [if_pos rfl, if_pos rfl, if_neg (by simp)]) (Ev.bind hg ?_)
  refine Ev.congr (fun k => by rw [if_pos rfl, if_pos rfl, bne_self_eq_false]) ?_
  exact Ev.step (fun k => by rw [laws_FnMaps.j0, if_neg (by simp)]) last

end Go.Proofs.YtkaffmlppfppeaaDoor.Pure

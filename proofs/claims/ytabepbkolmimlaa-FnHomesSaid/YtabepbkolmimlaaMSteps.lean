/- Walking distances on a finite graph: a labelling that is 0 at the sources alone, grows by at most one over a step and comes from somewhere is the only one. -/
import Derived.Test.YtabepbkolmimlaaMLists
namespace Go.Proofs.Ytabepbkolmimlaa.MSteps
open Go.RowKit Go.Proofs.YtabepbkolmimlaaW.PrintWords Go.Proofs.Ytabepbkolmimlaa.MBase Go.Proofs.Ytabepbkolmimlaa.MLists
set_option linter.unusedVariables false

def Cell (n : Nat) (x : Int) : Prop := 0 ≤ x ∧ x < n

theorem rd_at (d : List Int) (x : Int) : rd d x = d.getD x.toNat 0 := rfl

theorem rd_set {n : Nat} {d : List Int} (hl : d.length = n) {x y : Int} (hx : Cell n x) (hy : Cell n y) (v : Int) : rd (d.set y.toNat v) x = if x = y then v else rd d x := by
  have h0 := hx.1; have h1 := hx.2; have h2 := hy.1; have h3 := hy.2
  rw [rd_at, rd_at, getD_set d _ _ _ _ (by omega)]
  by_cases h : x = y
  · rw [if_pos h, if_pos (by rw [h])]
  · rw [if_neg h, if_neg (by omega)]

structure Base (n : Nat) (A : Int → List Int) (S : Int → Prop) (d : List Int) : Prop where
  len : d.length = n
  lo : ∀ x, Cell n x → -1 ≤ rd d x
  src : ∀ x, Cell n x → (rd d x = 0 ↔ S x)
  pred : ∀ y, Cell n y → 0 < rd d y → ∃ x, Cell n x ∧ y ∈ A x ∧ rd d x = rd d y - 1

def Done (A : Int → List Int) (d : List Int) (x : Int) : Prop := ∀ y, y ∈ A x → 0 ≤ rd d y ∧ rd d y ≤ rd d x + 1

structure Lab (n : Nat) (A : Int → List Int) (S : Int → Prop) (d : List Int) : Prop extends Base n A S d where
  edge : ∀ x, Cell n x → 0 ≤ rd d x → Done A d x

theorem Base.keep {n : Nat} {A : Int → List Int} {S : Int → Prop} {d : List Int} (b : Base n A S d) {y z : Int} (hy : Cell n y) (hyd : rd d y < 0) (hz : Cell n z) (hzd : 0 ≤ rd d z) (v : Int) : rd (d.set y.toNat v) z = rd d z := by
  rw [rd_set b.len hz hy, if_neg]
  intro h
  rw [h] at hzd
  omega

theorem Base.set {n : Nat} {A : Int → List Int} {S : Int → Prop} {d : List Int} (b : Base n A S d) {x y : Int} (hx : Cell n x) (hxd : 0 ≤ rd d x) (hyA : y ∈ A x) (hy : Cell n y) (hyd : rd d y < 0) : Base n A S (d.set y.toNat (rd d x + 1)) where
  len := by rw [List.length_set]; exact b.len
  lo := by
    intro z hz
    rw [rd_set b.len hz hy]
    split
    · omega
    · exact b.lo z hz
  src := by
    intro z hz
    rw [rd_set b.len hz hy]
    split
    · rename_i h
      subst h
      have := b.src z hz
      constructor
      · intro h; omega
      · intro h; have := this.2 h; omega
    · exact b.src z hz
  pred := by
    intro z hz
    rw [rd_set b.len hz hy]
    split
    · rename_i h
      subst h
      intro _
      exact ⟨x, hx, hyA, by rw [b.keep hy hyd hx hxd]; omega⟩
    · intro h
      obtain ⟨u, hu, hzu, e⟩ := b.pred z hz h
      exact ⟨u, hu, hzu, by rw [b.keep hy hyd hu (by omega)]; exact e⟩

theorem Done.set {n : Nat} {A : Int → List Int} {S : Int → Prop} {d : List Int} (b : Base n A S d) (hA : ∀ x, Cell n x → ∀ y, y ∈ A x → Cell n y) {y z : Int} (hy : Cell n y) (hyd : rd d y < 0) (hz : Cell n z) (hzd : 0 ≤ rd d z) (h : Done A d z) (v : Int) : Done A (d.set y.toNat v) z := by
  intro u hu
  have h1 := h u hu
  have hc := hA z hz u hu
  rw [b.keep hy hyd hc h1.1, b.keep hy hyd hz hzd]
  exact h1

theorem Lab.le {n : Nat} {A : Int → List Int} {S : Int → Prop} {d e : List Int} (a : Base n A S d) (b : Lab n A S e) : ∀ m : Nat, ∀ x, Cell n x → rd d x = m → 0 ≤ rd e x ∧ rd e x ≤ m := by
  intro m
  induction m with
  | zero =>
    intro x hx h
    have hs := (a.src x hx).1 (by rw [h]; rfl)
    rw [(b.src x hx).2 hs]
    omega
  | succ m ih =>
    intro x hx h
    obtain ⟨u, hu, hxu, e1⟩ := a.pred x hx (by omega)
    have h1 := ih u hu (by omega)
    have h2 := b.edge u hu h1.1 x hxu
    omega

theorem Lab.unique {n : Nat} {A : Int → List Int} {S : Int → Prop} {d e : List Int} (a : Lab n A S d) (b : Lab n A S e) : d = e := by
  refine list_eq (by rw [a.len, b.len]) (fun j hj => ?_)
  have hc : Cell n (j : Int) := ⟨by omega, by have := a.len; omega⟩
  have h1 := a.lo j hc
  have h2 := b.lo j hc
  have e1 : rd d (j : Int) = rd e (j : Int) := by
    rcases Int.lt_or_le (rd d (j : Int)) 0 with hd | hd
    · rcases Int.lt_or_le (rd e (j : Int)) 0 with he | he
      · omega
      · have := Lab.le b.toBase a (rd e (j : Int)).toNat j hc (by omega)
        omega
    · have h3 := Lab.le a.toBase b (rd d (j : Int)).toNat j hc (by omega)
      have h4 := Lab.le b.toBase a (rd e (j : Int)).toNat j hc (by omega)
      omega
  rw [rd_at, rd_at, Int.toNat_natCast, List.getD_eq_getElem?_getD, List.getD_eq_getElem?_getD] at e1
  have hj2 : j < e.length := by rw [b.len, ← a.len]; exact hj
  rw [List.getElem?_eq_getElem hj, List.getElem?_eq_getElem hj2] at e1 ⊢
  rw [show d[j] = e[j] from e1]

/-- a labelling has no label as great as the number of the cells -/
theorem Base.small {n : Nat} {A : Int → List Int} {S : Int → Prop} {d : List Int} (b : Base n A S d) (x : Int) (hx : Cell n x) : rd d x < n := by
  rcases Int.lt_or_le (rd d x) n with h | h
  · exact h
  exfalso
  have each : ∀ t : Nat, ∀ x, Cell n x → rd d x = t → ∀ m : Nat, m ≤ t → ∃ u : Nat, u < n ∧ rd d (u : Int) = m := by
    intro t
    induction t with
    | zero => intro x hx he m hm; exact ⟨x.toNat, by have := hx.1; have := hx.2; omega, by rw [show ((x.toNat : Nat) : Int) = x by have := hx.1; omega, he]; omega⟩
    | succ t ih =>
      intro x hx he m hm
      rcases Nat.lt_or_ge m (t + 1) with hlt | hge
      · obtain ⟨u, hu, _, e1⟩ := b.pred x hx (by omega)
        exact ih u hu (by omega) m (by omega)
      · exact ⟨x.toNat, by have := hx.1; have := hx.2; omega, by rw [show ((x.toNat : Nat) : Int) = x by have := hx.1; omega, he]; omega⟩
  have cnt : ∀ m : Nat, (m : Int) ≤ rd d x + 1 → (m : Int) ≤ sumTo n (fun i => if 0 ≤ rd d (i : Int) ∧ rd d (i : Int) < m then 1 else 0) := by
    intro m
    induction m with
    | zero => intro _; exact sumTo_nonneg (fun i _ => by split <;> omega)
    | succ m ih =>
      intro hm
      have h1 := ih (by omega)
      obtain ⟨u, hu, e1⟩ := each (rd d x).toNat x hx (by omega) m (by omega)
      have h2 : sumTo n (fun i => if 0 ≤ rd d (i : Int) ∧ rd d (i : Int) < ((m + 1 : Nat) : Int) then 1 else 0) = sumTo n (fun i => (if 0 ≤ rd d (i : Int) ∧ rd d (i : Int) < m then 1 else 0) + (if rd d (i : Int) = m then 1 else 0)) :=
        sumTo_congr (fun i _ => by
          by_cases c1 : rd d (i : Int) = m
          · rw [if_pos (by omega), if_neg (by omega), if_pos c1]; rfl
          · by_cases c2 : 0 ≤ rd d (i : Int) ∧ rd d (i : Int) < m
            · rw [if_pos (by omega), if_pos c2, if_neg c1]; rfl
            · rw [if_neg (by omega), if_neg c2, if_neg c1]; rfl)
      rw [h2, sumTo_add]
      have h3 : sumTo n (fun i => if i = u then (1 : Int) else 0) = 1 := sumTo_one (fun _ => 1) u hu
      have h4 : sumTo n (fun i => if i = u then (1 : Int) else 0) ≤ sumTo n (fun i => if rd d (i : Int) = m then 1 else 0) := sumTo_mono (fun i _ => by
        by_cases c : i = u
        · subst c; rw [if_pos rfl, if_pos e1]; omega
        · rw [if_neg c]; split <;> omega)
      omega
  have top := cnt (n + 1) (by omega)
  have bd := (sumTo_bound (n := n) (f := fun i => if 0 ≤ rd d (i : Int) ∧ rd d (i : Int) < ((n + 1 : Nat) : Int) then 1 else 0) (B := 1) (by omega) (fun i _ => by split <;> omega)).2
  omega

/-- how many cells have no label yet -/
def bare (n : Nat) (d : List Int) : Int := sumTo n (fun i => if rd d (i : Int) < 0 then 1 else 0)

theorem bare_nonneg (n : Nat) (d : List Int) : 0 ≤ bare n d := sumTo_nonneg (fun i _ => by split <;> omega)

theorem bare_le (n : Nat) (d : List Int) : bare n d ≤ n := by
  have := (sumTo_bound (n := n) (f := fun i => if rd d (i : Int) < 0 then 1 else 0) (B := 1) (by omega) (fun i _ => by split <;> omega)).2
  unfold bare
  omega

theorem bare_set {n : Nat} {d : List Int} (hl : d.length = n) {y : Int} (hy : Cell n y) (hyd : rd d y < 0) {v : Int} (hv : 0 ≤ v) : bare n (d.set y.toNat v) = bare n d - 1 := by
  have h0 := hy.1; have h1 := hy.2
  have h3 : sumTo n (fun i => if i = y.toNat then (1 : Int) else 0) = 1 := sumTo_one (fun _ => 1) y.toNat (by omega)
  have h2 : bare n (d.set y.toNat v) = sumTo n (fun i => (if rd d (i : Int) < 0 then 1 else 0) - (if i = y.toNat then (1 : Int) else 0)) :=
    sumTo_congr (fun i hi => by
      rw [rd_set hl ⟨by omega, by omega⟩ hy]
      by_cases c : (i : Int) = y
      · rw [if_pos c, if_neg (by omega), c, if_pos hyd, if_pos (by omega)]; rfl
      · rw [if_neg c, if_neg (show ¬ i = y.toNat by omega), Int.sub_zero])
  rw [h2, sumTo_sub, h3]
  rfl
end Go.Proofs.Ytabepbkolmimlaa.MSteps

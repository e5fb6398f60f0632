/- Nets and flows as plain functions on lists: whether they are right, the excess of a node, size, cost, cuts; no condition. -/
import Derived.Test.YtgkpgigoonhgdaaMLists
namespace Go.Proofs.Ytgkpgigoonhgdaa.MNet
open Go.RowKit Go.Proofs.YtgkpgigoonhgdaaW.PrintWords Go.Proofs.Ytgkpgigoonhgdaa.MBase Go.Proofs.Ytgkpgigoonhgdaa.MLists
set_option linter.unusedVariables false

structure Arc where
  u : Int
  v : Int
  r : Int
  c : Int

def arc0 : Arc := ⟨0, 0, 0, 0⟩
def at_ (l : List Arc) (i : Nat) : Arc := l.getD i arc0

def ArcOk (n : Int) (a : Arc) : Prop := 0 ≤ a.u ∧ a.u < n ∧ 0 ≤ a.v ∧ a.v < n ∧ a.u ≠ a.v ∧ 0 ≤ a.r ∧ a.r ≤ 20 ∧ 0 ≤ a.c ∧ a.c ≤ 100
instance (n : Int) (a : Arc) : Decidable (ArcOk n a) := by unfold ArcOk; infer_instance
def NetOk (n : Int) (l : List Arc) : Prop := (2 ≤ n ∧ n ≤ 1500 ∧ l.length ≤ 3200) ∧ ∀ i, i < l.length → ArcOk n (at_ l i)

noncomputable def boolP (p : Prop) : Bool := @decide p (Classical.propDecidable p)
theorem boolP_iff {p : Prop} : boolP p = true ↔ p := by unfold boolP; exact @decide_eq_true_iff p (Classical.propDecidable p)
theorem boolP_true {p : Prop} (h : p) : boolP p = true := boolP_iff.mpr h
theorem boolP_false {p : Prop} (h : ¬ p) : boolP p = false := by
  cases hb : boolP p with
  | false => rfl
  | true => exact absurd (boolP_iff.mp hb) h

/-- inflow less outflow of node x, over the first m arcs -/
def exc (l : List Arc) (f : List Int) (m : Nat) (x : Int) : Int := sumTo m (fun i => (if (at_ l i).v = x then f.getD i 0 else 0) - (if (at_ l i).u = x then f.getD i 0 else 0))

def InRoom (l : List Arc) (f : List Int) : Prop := ∀ i, i < l.length → 0 ≤ f.getD i 0 ∧ f.getD i 0 ≤ (at_ l i).r
def FlowOk (n : Int) (l : List Arc) (f : List Int) : Prop := NetOk n l ∧ f.length = l.length ∧ InRoom l f ∧ ∀ x : Nat, 2 ≤ x → (x : Int) < n → exc l f l.length x = 0

noncomputable def flowSize (n : Int) (l : List Arc) (f : List Int) : Int := if boolP (FlowOk n l f) = true then - exc l f l.length 0 else -1
def CutOk (n : Int) (l : List Arc) (s : List Bool) : Prop := NetOk n l ∧ (s.length : Int) = n ∧ s.getD 0 false = true ∧ s.getD 1 false = false

def cutTo (l : List Arc) (s : List Bool) (m : Nat) : Int := sumTo m (fun i => if s.getD (at_ l i).u.toNat false = true ∧ s.getD (at_ l i).v.toNat false = false then (at_ l i).r else 0)
noncomputable def cutRoom (n : Int) (l : List Arc) (s : List Bool) : Int := if boolP (CutOk n l s) = true then cutTo l s l.length else -1

noncomputable def stopped (n : Int) (l : List Arc) (f : List Int) (s : List Bool) : Bool := boolP (FlowOk n l f) && (boolP (CutOk n l s) && (flowSize n l f == cutRoom n l s))

theorem exc_succ (l : List Arc) (f : List Int) (m : Nat) (x : Int) : exc l f (m + 1) x = exc l f m x + ((if (at_ l m).v = x then f.getD m 0 else 0) - (if (at_ l m).u = x then f.getD m 0 else 0)) := rfl

theorem exc_bound {n : Int} {l : List Arc} {f : List Int} (hn : NetOk n l) (hr : InRoom l f) (m : Nat) (hm : m ≤ l.length) (x : Int) : -64000 ≤ exc l f m x ∧ exc l f m x ≤ 64000 := by
  have h := sumTo_bound (n := m) (f := fun i => (if (at_ l i).v = x then f.getD i 0 else 0) - (if (at_ l i).u = x then f.getD i 0 else 0)) (B := 20) (by omega) (fun i hi => by
    have a := hr i (by omega)
    have b := hn.2 i (by omega)
    have c := b.2.2.2.2.2.2.1
    split <;> split <;> omega)
  have := hn.1
  unfold exc
  omega

theorem cut_bound {n : Int} {l : List Arc} (s : List Bool) (hn : NetOk n l) (m : Nat) (hm : m ≤ l.length) : 0 ≤ cutTo l s m ∧ cutTo l s m ≤ 64000 := by
  have hb : ∀ i, i < l.length → 0 ≤ (if s.getD (at_ l i).u.toNat false = true ∧ s.getD (at_ l i).v.toNat false = false then (at_ l i).r else 0) ∧ (if s.getD (at_ l i).u.toNat false = true ∧ s.getD (at_ l i).v.toNat false = false then (at_ l i).r else 0) ≤ 20 := fun i hi => by
    have b := hn.2 i hi
    have c := b.2.2.2.2.2
    split <;> omega
  have h := sumTo_bound (n := m) (f := fun i => if s.getD (at_ l i).u.toNat false = true ∧ s.getD (at_ l i).v.toNat false = false then (at_ l i).r else 0) (B := 20) (by omega) (fun i hi => by have := hb i (by omega); omega)
  have h2 := sumTo_nonneg (n := m) (f := fun i => if s.getD (at_ l i).u.toNat false = true ∧ s.getD (at_ l i).v.toNat false = false then (at_ l i).r else 0) (fun i hi => (hb i (by omega)).1)
  have := hn.1
  unfold cutTo
  omega

theorem put_step {n : Int} {ys : List Int} {G G' : Int → Int} {U V F : Int} (hU : 0 ≤ U) (hU2 : U < n) (hV : 0 ≤ V) (hV2 : V < n) (hne : U ≠ V) (hl : ys.length = n.toNat)
    (hy : ∀ x : Nat, (x : Int) < n → ys.getD x 0 = G x) (hG : ∀ x : Nat, G' x = G x + ((if V = (x : Int) then F else 0) - (if U = (x : Int) then F else 0))) :
    ys.getD V.toNat 0 = G V ∧ (ys.set V.toNat (G V + F)).getD U.toNat 0 = G U ∧ ∀ x : Nat, (x : Int) < n → ((ys.set V.toNat (G V + F)).set U.toNat (G U - F)).getD x 0 = G' x := by
  have tv : ((V.toNat : Nat) : Int) = V := by omega
  have tu : ((U.toNat : Nat) : Int) = U := by omega
  have gV := hy V.toNat (by omega)
  have gU := hy U.toNat (by omega)
  rw [tv] at gV
  rw [tu] at gU
  refine ⟨gV, ?_, fun x hx => ?_⟩
  · rw [getD_set _ _ _ _ _ (by omega), if_neg (by omega)]
    exact gU
  · rw [getD_set _ _ _ _ _ (by rw [List.length_set]; omega), getD_set _ _ _ _ _ (by omega), hG, hy x hx]
    by_cases h3 : x = U.toNat
    · have e : U = (x : Int) := by omega
      rw [if_pos h3, if_neg (by omega), if_pos e, e]
      omega
    · rw [if_neg h3]
      by_cases h4 : x = V.toNat
      · have e : V = (x : Int) := by omega
        rw [if_pos h4, if_pos e, if_neg (by omega), e]
        omega
      · rw [if_neg h4, if_neg (by omega), if_neg (by omega)]
        omega

theorem w64e {g F r : Int} (hg : -64000 ≤ g ∧ g ≤ 64000) (hF : 0 ≤ F ∧ F ≤ r) (hr : r ≤ 20) : wrap64 (g + F) = g + F ∧ wrap64 (g - F) = g - F ∧ wrap64 (-g + F) = -g + F ∧ wrap64 (-g - F) = -g - F := by
  unfold wrap64
  omega

theorem w64n {g : Int} (hg : -64000 ≤ g ∧ g ≤ 64000) : wrap64 (-g) = -g := by
  unfold wrap64
  omega

/-- the counter of a loop over the arcs -/
theorem next_i {i m : Nat} (h : i < m) (hm : m ≤ 1048576) : wrap64 ((i : Int) + 1) = ((i + 1 : Nat) : Int) := by
  unfold wrap64
  omega
theorem lt_i {i m : Nat} (h : i < m) : (i : Int) < (m : Int) := by omega
theorem ge_i (i : Nat) : (0 : Int) ≤ (i : Int) := by omega
theorem nlt_i {m : Nat} : ¬ ((m : Int) < (m : Int)) := by omega
theorem lt_len {x n : Int} {m : Nat} (h : x < n) (hm : m = n.toNat) (h0 : 0 ≤ x) : x < (m : Int) := by omega
end Go.Proofs.Ytgkpgigoonhgdaa.MNet

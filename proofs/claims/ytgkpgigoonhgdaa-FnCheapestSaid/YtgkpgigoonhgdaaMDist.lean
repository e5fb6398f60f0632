/- Distances in the residual net under a potential: relaxing, what is left when nothing relaxes, its uniqueness, the next potential; no condition. -/
import Derived.Test.YtgkpgigoonhgdaaMCut
namespace Go.Proofs.Ytgkpgigoonhgdaa.MDist
open Go.RowKit Go.Proofs.YtgkpgigoonhgdaaW.PrintWords Go.Proofs.Ytgkpgigoonhgdaa.MBase Go.Proofs.Ytgkpgigoonhgdaa.MLists Go.Proofs.Ytgkpgigoonhgdaa.MNet Go.Proofs.Ytgkpgigoonhgdaa.MCut
set_option linter.unusedVariables false

def INF : Int := 1152921504606846976
def sCost (l : List Arc) (i : Nat) (b : Bool) : Int := if b = true then - (at_ l i).c else (at_ l i).c
def sLen (l : List Arc) (i : Nat) (b : Bool) : Int := 10000 * sCost l i b + 1
def fr (l : List Arc) (i : Nat) (b : Bool) : Nat := (sFrom l i b).toNat
def tw (l : List Arc) (i : Nat) (b : Bool) : Nat := (sTo l i b).toNat

theorem ends_ok {n : Int} {l : List Arc} (hn : NetOk n l) {i : Nat} (hi : i < l.length) (b : Bool) : (fr l i b : Int) = sFrom l i b ∧ (tw l i b : Int) = sTo l i b ∧ fr l i b < n.toNat ∧ tw l i b < n.toNat ∧ fr l i b ≠ tw l i b ∧ -100 ≤ sCost l i b ∧ sCost l i b ≤ 100 := by
  obtain ⟨a1, a2, a3, a4, a5, a6, a7, a8, a9⟩ := hn.2 i hi
  unfold fr tw sFrom sTo sCost
  cases b
  · simp only [Bool.false_eq_true, if_false]; omega
  · simp only [if_true]; omega

/-- a potential on a set that no residual step leaves -/
structure Pot (n : Int) (l : List Arc) (f : List Int) (S : Nat → Bool) (P : Nat → Int) : Prop where
  zero : S 0 = true
  step : ∀ i b, i < l.length → 0 < sRoom l f i b → S (fr l i b) = true → S (tw l i b) = true ∧ 0 ≤ sCost l i b + P (fr l i b) - P (tw l i b)
  bound : ∀ x, S x = true → -150000 ≤ P x ∧ P x ≤ 150000

structure Lab (n : Int) (l : List Arc) (f : List Int) (S : Nat → Bool) (P : Nat → Int) (d : List Int) : Prop where
  len : d.length = n.toNat
  zero : d.getD 0 0 = 0
  hi : ∀ x, x < n.toNat → d.getD x 0 ≤ INF
  lo : ∀ x, x < n.toNat → d.getD x 0 < INF → S x = true ∧ 10000 * (P x - P 0) ≤ d.getD x 0
  sup : ∀ x, x < n.toNat → x ≠ 0 → d.getD x 0 < INF → ∃ i b, i < l.length ∧ 0 < sRoom l f i b ∧ tw l i b = x ∧ d.getD (fr l i b) 0 < INF ∧ d.getD (fr l i b) 0 + sLen l i b ≤ d.getD x 0

section
variable {n : Int} {l : List Arc} {f : List Int} {S : Nat → Bool} {P : Nat → Int} {d e : List Int}

theorem Lab.start (hn : NetOk n l) (hp : Pot n l f S P) (d : List Int) (hl : d.length = n.toNat) (h0 : d.getD 0 0 = 0) (h1 : ∀ x, 0 < x → x < n.toNat → d.getD x 0 = INF) : Lab n l f S P d where
  len := hl
  zero := h0
  hi := fun x hx => by
    by_cases c : x = 0
    · subst c; rw [h0]; unfold INF; omega
    · rw [h1 x (by omega) hx]; exact Int.le_refl _
  lo := fun x hx hf => by
    by_cases c : x = 0
    · subst c; rw [h0]; exact ⟨hp.zero, by omega⟩
    · rw [h1 x (by omega) hx] at hf; exact absurd hf (Int.lt_irrefl _)
  sup := fun x hx hc hf => by
    rw [h1 x (by omega) hx] at hf; exact absurd hf (Int.lt_irrefl _)

/-- what may relax is not node 0 -/
theorem Lab.relax_ne (hn : NetOk n l) (hp : Pot n l f S P) (a : Lab n l f S P d) {i : Nat} {b : Bool} (hi : i < l.length) (hr : 0 < sRoom l f i b) (hu : d.getD (fr l i b) 0 < INF) : 10000 * (P (tw l i b) - P 0) + 1 ≤ d.getD (fr l i b) 0 + sLen l i b ∧ S (tw l i b) = true := by
  obtain ⟨e1, e2, e3, e4, e5, e6⟩ := ends_ok hn hi b
  obtain ⟨s1, s2⟩ := a.lo _ e3 hu
  obtain ⟨t1, t2⟩ := hp.step i b hi hr s1
  refine ⟨?_, t1⟩
  unfold sLen
  omega

theorem Lab.relax (hn : NetOk n l) (hp : Pot n l f S P) (a : Lab n l f S P d) {i : Nat} {b : Bool} (hi : i < l.length) (hr : 0 < sRoom l f i b) (hu : d.getD (fr l i b) 0 < INF) (hv : d.getD (fr l i b) 0 + sLen l i b < d.getD (tw l i b) 0) : tw l i b ≠ 0 ∧ Lab n l f S P (d.set (tw l i b) (d.getD (fr l i b) 0 + sLen l i b)) := by
  obtain ⟨e1, e2, e3, e4, e5, e6⟩ := ends_ok hn hi b
  obtain ⟨r1, r2⟩ := a.relax_ne hn hp hi hr hu
  have h0 : tw l i b ≠ 0 := fun e => by
    rw [e, a.zero] at hv
    rw [e] at r1
    omega
  have hh := a.hi _ e4
  refine ⟨h0, ?_⟩
  have hset : ∀ x, (d.set (tw l i b) (d.getD (fr l i b) 0 + sLen l i b)).getD x 0 = if x = tw l i b then d.getD (fr l i b) 0 + sLen l i b else d.getD x 0 := fun x => getD_set _ _ _ _ _ (by rw [a.len]; exact e4)
  refine ⟨by rw [List.length_set]; exact a.len, by rw [hset, if_neg (fun e => h0 e.symm)]; exact a.zero, fun x hx => ?_, fun x hx hf => ?_, fun x hx h0x hf => ?_⟩
  · rw [hset]; split
    · omega
    · exact a.hi x hx
  · rw [hset] at hf ⊢
    by_cases c : x = tw l i b
    · rw [if_pos c, c]; exact ⟨r2, by omega⟩
    · rw [if_neg c] at hf ⊢; exact a.lo x hx hf
  · by_cases c : x = tw l i b
    · refine ⟨i, b, hi, hr, c.symm, ?_, ?_⟩
      · rw [hset, if_neg e5]; exact hu
      · rw [hset, hset, if_neg e5, if_pos c]; exact Int.le_refl _
    · rw [hset, if_neg c] at hf
      obtain ⟨j, b', g1, g2, g3, g4, g5⟩ := a.sup x hx h0x hf
      refine ⟨j, b', g1, g2, g3, ?_, ?_⟩
      · rw [hset]; split
        · omega
        · exact g4
      · rw [hset, hset, if_neg c]; split
        · rename_i c2
          rw [c2] at g5
          omega
        · exact g5

/-- nothing relaxes any more -/
def Conv (l : List Arc) (f d : List Int) : Prop := ∀ i b, i < l.length → 0 < sRoom l f i b → d.getD (fr l i b) 0 < INF → d.getD (tw l i b) 0 ≤ d.getD (fr l i b) 0 + sLen l i b

structure Fin (n : Int) (l : List Arc) (f : List Int) (S : Nat → Bool) (P : Nat → Int) (d : List Int) : Prop extends Lab n l f S P d where
  conv : Conv l f d

/-- a step by which a label is reached -/
def Tight (l : List Arc) (f d : List Int) (x : Nat) (i : Nat) (b : Bool) : Prop := i < l.length ∧ tw l i b = x ∧ 0 < sRoom l f i b ∧ d.getD (fr l i b) 0 < INF ∧ d.getD (fr l i b) 0 + sLen l i b = d.getD x 0

theorem Fin.tight (a : Fin n l f S P d) {x : Nat} (hx : x < n.toNat) (h0 : x ≠ 0) (hf : d.getD x 0 < INF) : ∃ i b, Tight l f d x i b := by
  obtain ⟨i, b, g1, g2, g3, g4, g5⟩ := a.sup x hx h0 hf
  have := a.conv i b g1 g2 g4
  rw [g3] at this
  exact ⟨i, b, g1, g3, g2, g4, by omega⟩

/-- the height of a label over the potential, and how many nodes lie lower -/
def ht (P : Nat → Int) (d : List Int) (x : Nat) : Int := d.getD x 0 - 10000 * P x
def rank (n : Int) (P : Nat → Int) (d : List Int) (x : Nat) : Int := sumTo n.toNat (fun y => if d.getD y 0 < INF ∧ ht P d y < ht P d x then 1 else 0)

theorem rank_bound (n : Int) (P : Nat → Int) (d : List Int) (x : Nat) (hx : x < n.toNat) : 0 ≤ rank n P d x ∧ rank n P d x < n.toNat := by
  have h := sumTo_nonneg (n := n.toNat) (f := fun y => if d.getD y 0 < INF ∧ ht P d y < ht P d x then (1 : Int) else 0) (fun i _ => by split <;> omega)
  have h2 : rank n P d x ≤ sumTo n.toNat (fun y => 1 - (if y = x then (1 : Int) else 0)) := sumTo_mono (fun y _ => by
    by_cases c : y = x
    · subst c; rw [if_neg (fun hh => absurd hh.2 (Int.lt_irrefl _)), if_pos rfl]; omega
    · rw [if_neg c]; split <;> omega)
  have h3 : sumTo n.toNat (fun i => if i = x then (1 : Int) else 0) = 1 := sumTo_one (fun _ => 1) x hx
  have h4 := (sumTo_bound (n := n.toNat) (f := fun _ => (1 : Int)) (B := 1) (by omega) (fun i _ => by omega)).2
  rw [sumTo_sub, h3] at h2
  unfold rank at h2 ⊢
  omega

theorem rank_lt (n : Int) (P : Nat → Int) (d : List Int) {u x : Nat} (hu : u < n.toNat) (hf : d.getD u 0 < INF) (h : ht P d u < ht P d x) : rank n P d u < rank n P d x := by
  have h3 : sumTo n.toNat (fun i => if i = u then (1 : Int) else 0) = 1 := sumTo_one (fun _ => 1) u hu
  have h2 : rank n P d u + 1 ≤ rank n P d x := by
    unfold rank
    rw [← h3, ← sumTo_add]
    refine sumTo_mono (fun y _ => ?_)
    by_cases c : y = u
    · subst c; rw [if_neg (fun hh => absurd hh.2 (Int.lt_irrefl _)), if_pos rfl, if_pos ⟨hf, h⟩]; omega
    · rw [if_neg c]
      by_cases c2 : d.getD y 0 < INF ∧ ht P d y < ht P d u
      · rw [if_pos c2, if_pos ⟨c2.1, by omega⟩]; omega
      · rw [if_neg c2]; split <;> omega
  omega

theorem tight_rank (hn : NetOk n l) (hp : Pot n l f S P) (a : Lab n l f S P d) {x i : Nat} {b : Bool} (t : Tight l f d x i b) : rank n P d (fr l i b) < rank n P d x := by
  obtain ⟨g1, g2, g3, g4, g5⟩ := t
  obtain ⟨e1, e2, e3, e4, e5, e6⟩ := ends_ok hn g1 b
  obtain ⟨s1, s2⟩ := a.lo _ e3 g4
  obtain ⟨t1, t2⟩ := hp.step i b g1 g3 s1
  refine rank_lt n P d e3 g4 ?_
  unfold ht
  rw [← g5, ← g2]
  unfold sLen
  omega

/-- labels are least: a label that comes from somewhere is no less than one of those that relax no more -/
theorem fin_le (hn : NetOk n l) (hp : Pot n l f S P) (a : Fin n l f S P d) (c : Conv l f e) (z : e.getD 0 0 = 0) (h1500 : ∀ x, x < n.toNat → e.getD x 0 ≤ INF) (m : Nat) : ∀ x, x < n.toNat → d.getD x 0 < INF → rank n P d x ≤ m → e.getD x 0 ≤ d.getD x 0 := by
  induction m with
  | zero =>
    intro x hx hf hr
    by_cases h0 : x = 0
    · subst h0; rw [z, a.zero]; exact Int.le_refl _
    · obtain ⟨i, b, t⟩ := a.tight hx h0 hf
      have h1 := tight_rank hn hp a.toLab t
      have e3 := (ends_ok hn t.1 b).2.2.1
      have h2 := (rank_bound n P d (fr l i b) e3).1
      omega
  | succ m ih =>
    intro x hx hf hr
    by_cases h0 : x = 0
    · subst h0; rw [z, a.zero]; exact Int.le_refl _
    · obtain ⟨i, b, t⟩ := a.tight hx h0 hf
      have h1 := tight_rank hn hp a.toLab t
      have e3 := (ends_ok hn t.1 b).2.2.1
      have h2 := ih _ e3 t.2.2.2.1 (by omega)
      have h3 := c i b t.1 t.2.2.1 (Int.lt_of_le_of_lt h2 t.2.2.2.1)
      rw [t.2.1] at h3
      have := t.2.2.2.2
      omega

theorem Fin.unique (hn : NetOk n l) (hp : Pot n l f S P) (a : Fin n l f S P d) (c : Fin n l f S P e) : d = e := by
  have h1 := fun x hx hf => fin_le hn hp a c.conv c.zero c.hi n.toNat x hx hf (by have := (rank_bound n P d x hx).2; omega)
  have h2 := fun x hx hf => fin_le hn hp c a.conv a.zero a.hi n.toNat x hx hf (by have := (rank_bound n P e x hx).2; omega)
  refine list_eq (by rw [a.len, c.len]) (fun j hj => ?_)
  have hj2 : j < e.length := by rw [c.len, ← a.len]; exact hj
  have hx : j < n.toNat := by rw [← a.len]; exact hj
  have e1 : d.getD j 0 = e.getD j 0 := by
    have ha := a.hi j hx
    have hc := c.hi j hx
    rcases Int.lt_or_le (d.getD j 0) INF with q | q
    · have p1 := h1 j hx q
      have p2 := h2 j hx (by omega)
      omega
    · rcases Int.lt_or_le (e.getD j 0) INF with q2 | q2
      · have p2 := h2 j hx q2
        omega
      · omega
  rw [List.getD_eq_getElem?_getD, List.getD_eq_getElem?_getD, List.getElem?_eq_getElem hj, List.getElem?_eq_getElem hj2] at e1
  rw [List.getElem?_eq_getElem hj, List.getElem?_eq_getElem hj2]
  simpa using e1

/-- a label is ten thousand times a cost, and a number of steps -/
theorem Fin.parts (hn : NetOk n l) (hp : Pot n l f S P) (a : Fin n l f S P d) (m : Nat) : ∀ x, x < n.toNat → d.getD x 0 < INF → rank n P d x ≤ m → ∃ C s : Int, d.getD x 0 = 10000 * C + s ∧ 0 ≤ s ∧ s ≤ rank n P d x ∧ -(100 * s) ≤ C ∧ C ≤ 100 * s := by
  induction m with
  | zero =>
    intro x hx hf hr
    have hb := (rank_bound n P d x hx).1
    by_cases h0 : x = 0
    · subst h0; exact ⟨0, 0, by rw [a.zero]; rfl, by omega, by omega, by omega, by omega⟩
    · obtain ⟨i, b, t⟩ := a.tight hx h0 hf
      have h1 := tight_rank hn hp a.toLab t
      have e3 := (ends_ok hn t.1 b).2.2.1
      have h2 := (rank_bound n P d (fr l i b) e3).1
      omega
  | succ m ih =>
    intro x hx hf hr
    have hb := (rank_bound n P d x hx).1
    by_cases h0 : x = 0
    · subst h0; exact ⟨0, 0, by rw [a.zero]; rfl, by omega, by omega, by omega, by omega⟩
    · obtain ⟨i, b, t⟩ := a.tight hx h0 hf
      have h1 := tight_rank hn hp a.toLab t
      obtain ⟨_, _, e3, _, _, e6, e7⟩ := ends_ok hn t.1 b
      obtain ⟨C, s, q1, q2, q3, q4, q5⟩ := ih _ e3 t.2.2.2.1 (by omega)
      have t5 := t.2.2.2.2
      unfold sLen at t5
      exact ⟨C + sCost l i b, s + 1, by omega, by omega, by omega, by omega, by omega⟩

/-- the cost part of a label -/
def cst (d : List Int) (x : Nat) : Int := d.getD x 0 / 10000

theorem Fin.cst_parts (hn : NetOk n l) (hp : Pot n l f S P) (a : Fin n l f S P d) {x : Nat} (hx : x < n.toNat) (hf : d.getD x 0 < INF) : ∃ s : Int, d.getD x 0 = 10000 * cst d x + s ∧ 0 ≤ s ∧ s ≤ 1499 ∧ -149900 ≤ cst d x ∧ cst d x ≤ 149900 := by
  have hb := rank_bound n P d x hx
  have h15 := hn.1.2.1
  obtain ⟨C, s, q1, q2, q3, q4, q5⟩ := a.parts hn hp n.toNat x hx hf (by omega)
  have : cst d x = C := by unfold cst; omega
  rw [this]
  exact ⟨s, q1, q2, by omega, by omega, by omega⟩

/-- labels that relax no more are a potential, for this flow -/
theorem Fin.next (hn : NetOk n l) (hp : Pot n l f S P) (a : Fin n l f S P d) {i : Nat} {b : Bool} (hi : i < l.length) (hr : 0 < sRoom l f i b) (hu : d.getD (fr l i b) 0 < INF) : d.getD (tw l i b) 0 < INF ∧ 0 ≤ sCost l i b + cst d (fr l i b) - cst d (tw l i b) ∧ (d.getD (fr l i b) 0 + sLen l i b = d.getD (tw l i b) 0 → sCost l i b + cst d (fr l i b) - cst d (tw l i b) = 0) := by
  obtain ⟨_, _, e3, e4, _, e6, e7⟩ := ends_ok hn hi b
  obtain ⟨s, q1, q2, q3, q4, q5⟩ := a.cst_parts hn hp e3 hu
  have hc := a.conv i b hi hr hu
  have hsm : d.getD (tw l i b) 0 < INF := by unfold sLen at hc; unfold INF; omega
  obtain ⟨t, r1, r2, r3, r4, r5⟩ := a.cst_parts hn hp e4 hsm
  unfold sLen at hc ⊢
  refine ⟨hsm, by omega, fun e => by omega⟩
end
end Go.Proofs.Ytgkpgigoonhgdaa.MDist

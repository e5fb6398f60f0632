/- The next potential behind a push, what a way costs, rounds of relaxing, a queue of nodes to relax from; no condition. -/
import Derived.Test.YtgkpgigoonhgdaaMDist
namespace Go.Proofs.Ytgkpgigoonhgdaa.MCheap
open Go.RowKit Go.Proofs.YtgkpgigoonhgdaaW.PrintWords Go.Proofs.Ytgkpgigoonhgdaa.MBase Go.Proofs.Ytgkpgigoonhgdaa.MLists Go.Proofs.Ytgkpgigoonhgdaa.MNet Go.Proofs.Ytgkpgigoonhgdaa.MCut Go.Proofs.Ytgkpgigoonhgdaa.MDist
set_option linter.unusedVariables false

def pCost (l : List Arc) : List (Nat × Bool) → Int
  | [] => 0
  | s :: p => sCost l s.1 s.2 + pCost l p

theorem cost_push {l : List Arc} {f : List Int} {i : Nat} {b : Bool} (hi : i < f.length) (m : Nat) : costTo l (push f i b 1) m = costTo l f m + (if i < m then sCost l i b else 0) := by
  induction m with
  | zero => rw [if_neg (show ¬ i < 0 by omega)]; rfl
  | succ m ih =>
    have e : ∀ g : List Int, costTo l g (m + 1) = costTo l g m + g.getD m 0 * (at_ l m).c := fun g => rfl
    rw [e, e, ih, push_get hi]
    by_cases h1 : m = i
    · subst h1
      rw [if_neg (show ¬ m < m by omega), if_pos (show m = m from rfl), if_pos (show m < m + 1 by omega)]
      unfold sCost
      cases b
      · simp only [Bool.false_eq_true, if_false]; rw [Int.add_mul]; omega
      · simp only [if_true]; rw [Int.add_mul]; omega
    · rw [if_neg (show ¬ m = i from h1)]
      by_cases h2 : i < m
      · rw [if_pos (show i < m from h2), if_pos (show i < m + 1 by omega)]; omega
      · rw [if_neg (show ¬ i < m from h2), if_neg (show ¬ i < m + 1 by omega)]; omega

theorem cost_pushAll {l : List Arc} (p : List (Nat × Bool)) : ∀ (f : List Int) (v : Int), f.length = l.length → PathL l p v → costTo l (pushAll f p 1) l.length = costTo l f l.length + pCost l p := by
  induction p with
  | nil => intro f v _ _; show costTo l f l.length = costTo l f l.length + 0; omega
  | cons s p ih =>
    intro f v hf hp
    obtain ⟨i, b⟩ := s
    obtain ⟨h1, h2, h3⟩ := hp
    have e := ih (push f i b 1) _ (by rw [push_len]; exact hf) h3
    show costTo l (pushAll (push f i b 1) p 1) l.length = _
    rw [e, cost_push (by omega), if_pos h1]
    show _ = _ + (sCost l i b + pCost l p)
    omega

section
variable {n : Int} {l : List Arc} {f : List Int} {S : Nat → Bool} {P : Nat → Int} {d e : List Int}

theorem tight_path (p : List (Nat × Bool)) (z : d.getD 0 0 = 0) : ∀ v : Int, PathL l p v → (∀ s, s ∈ p → ∃ x, Tight l f d x s.1 s.2) → d.getD v.toNat 0 = 10000 * pCost l p + p.length := by
  induction p with
  | nil =>
    intro v hp _
    have hp' : v = 0 := hp
    subst hp'
    show d.getD 0 0 = _
    rw [z]; rfl
  | cons s p ih =>
    intro v hp ht
    obtain ⟨i, b⟩ := s
    obtain ⟨h1, h2, h3⟩ := hp
    obtain ⟨x, t⟩ := ht _ (List.mem_cons_self ..)
    have e1 := ih _ h3 (fun s hs => ht s (List.mem_cons_of_mem _ hs))
    have e2 := t.2.2.2.2
    rw [← t.2.1] at e2
    unfold fr tw at e2
    simp only at e2
    rw [h2, e1] at e2
    rw [← e2]
    unfold sLen
    rw [List.length_cons]
    show _ = 10000 * (sCost l i b + pCost l p) + _
    omega

/-- what is reached, as a set -/
def got (n : Int) (d : List Int) (x : Nat) : Bool := decide (x < n.toNat ∧ d.getD x 0 < INF)

theorem start_pot (hn : NetOk n l) (hl : f.length = l.length) (h0 : ∀ i, i < l.length → f.getD i 0 = 0) : Pot n l f (fun _ => true) (fun _ => 0) where
  zero := rfl
  step := fun i b hi hr _ => ⟨rfl, by
    have a := (hn.2 i hi).2.2.2.2.2
    cases b
    · unfold sCost; simp only [Bool.false_eq_true, if_false]; omega
    · unfold sRoom at hr; simp only [if_true] at hr; rw [h0 i hi] at hr; omega⟩
  bound := fun x _ => by omega

theorem next_pot (hf : FlowOk n l f) (hp : Pot n l f S P) (a : Fin n l f S P d) (p : List (Nat × Bool)) (hpa : PathL l p 1) (hnd : (p.map Prod.fst).Nodup) (ht : ∀ s, s ∈ p → ∃ x, Tight l f d x s.1 s.2) : Pot n l (pushAll f p 1) (got n d) (cst d) where
  zero := by
    have := hf.1.1
    unfold got
    exact decide_eq_true ⟨by omega, by rw [a.zero]; unfold INF; omega⟩
  step := by
    intro i b hi hr hS
    have hn := hf.1
    have hS' : fr l i b < n.toNat ∧ d.getD (fr l i b) 0 < INF := of_decide_eq_true hS
    have hlt : ∀ s, s ∈ p → s.1 < f.length := fun s hs => by rw [hf.2.1]; exact pathL_lt p 1 hpa s hs
    have ends := ends_ok hn hi b
    have old : 0 < sRoom l f i b → got n d (tw l i b) = true ∧ 0 ≤ sCost l i b + cst d (fr l i b) - cst d (tw l i b) := fun h => by
      obtain ⟨q1, q2, _⟩ := a.next hn hp hi h hS'.2
      exact ⟨decide_eq_true ⟨ends.2.2.2.1, q1⟩, q2⟩
    by_cases hm : ∃ c, (i, c) ∈ p
    · obtain ⟨c, hc⟩ := hm
      obtain ⟨x, t⟩ := ht _ hc
      have hg := pushAll_this 1 p f i c hlt hnd hc
      obtain ⟨t1, t2, t3, t4, t5⟩ := t
      simp only at t1 t2 t3 t4 t5
      by_cases hbc : b = c
      · subst hbc; exact old t3
      · obtain ⟨q1, q2, q3⟩ := a.next hn hp hi t3 t4
        have q4 := q3 (by rw [t2]; exact t5)
        have ec := ends_ok hn hi c
        cases b <;> cases c
        · exact absurd rfl hbc
        · have x1 : tw l i false = fr l i true := rfl
          have x2 : fr l i false = tw l i true := rfl
          have x3 : sCost l i true = - sCost l i false := rfl
          rw [x1, x2]
          exact ⟨decide_eq_true ⟨ec.2.2.1, t4⟩, by omega⟩
        · have x1 : tw l i true = fr l i false := rfl
          have x2 : fr l i true = tw l i false := rfl
          have x3 : sCost l i true = - sCost l i false := rfl
          rw [x1, x2]
          exact ⟨decide_eq_true ⟨ec.2.2.1, t4⟩, by omega⟩
        · exact absurd rfl hbc
    · have hg := pushAll_other 1 p f i hlt (fun s hs e => hm ⟨s.2, by rw [← e]; exact hs⟩)
      refine old ?_
      unfold sRoom at hr ⊢
      rw [hg] at hr
      exact hr
  bound := by
    intro x hx
    have hx' : x < n.toNat ∧ d.getD x 0 < INF := of_decide_eq_true hx
    obtain ⟨s, q1, q2, q3, q4, q5⟩ := a.cst_parts hf.1 hp hx'.1 hx'.2
    omega

/-- the next labels cost no less -/
theorem next_cost (hn : NetOk n l) {g : List Int} (a : Fin n l f S P d) (hp2 : Pot n l g (got n d) (cst d)) (c : Fin n l g (got n d) (cst d) e) {x : Nat} (hx : x < n.toNat) (hf : e.getD x 0 < INF) : cst d x ≤ cst e x := by
  obtain ⟨s, q1, q2, q3, _, _⟩ := c.cst_parts hn hp2 hx hf
  have h1 := (c.lo x hx hf).2
  have h0 : cst d 0 = 0 := by unfold cst; rw [a.zero]; rfl
  omega

/-- a way of tight steps to a node that has a label -/
theorem tight_way (hn : NetOk n l) (hp : Pot n l f S P) (a : Fin n l f S P d) (By : Int → Nat → Bool → Prop) (hB : ∀ x : Nat, x < n.toNat → x ≠ 0 → d.getD x 0 < INF → ∃ i b, By x i b ∧ Tight l f d x i b) {v : Nat} (hv : v < n.toNat) (hf : d.getD v 0 < INF) :
    ∃ p, PathL l p v ∧ Follow l By p v ∧ (p.map Prod.fst).Nodup ∧ p.length < n.toNat ∧ (∀ s, s ∈ p → 0 < sRoom l f s.1 s.2) := by
  have hb := rank_bound n P d v hv
  obtain ⟨p, p1, p2, p3, p4, p5, _⟩ := way_of (l := l) (f := f) (By := By) (R := fun a v => ∃ x : Nat, v = x ∧ x < n.toNat ∧ d.getD x 0 < INF ∧ rank n P d x = a) (fun a b v x y => by
    obtain ⟨x1, e1, _, _, e2⟩ := x
    obtain ⟨y1, e3, _, _, e4⟩ := y
    obtain rfl : x1 = y1 := by omega
    omega) (fun r v x hv0 => by
    obtain ⟨x1, e1, e2, e3, e4⟩ := x
    obtain ⟨i, b, hb1, t⟩ := hB x1 e2 (by omega) e3
    obtain ⟨q1, q2, q3, q4, _⟩ := ends_ok hn t.1 b
    have tr := tight_rank hn hp a.toLab t
    have rb := rank_bound n P d (fr l i b) q3
    refine ⟨i, b, (rank n P d (fr l i b)).toNat, by rw [e1]; exact hb1, t.1, by rw [← q2, t.2.1, e1], t.2.2.1, ⟨fr l i b, q1.symm, q3, t.2.2.2.1, by omega⟩, by omega⟩) (rank n P d v).toNat (rank n P d v).toNat v (Nat.le_refl _) ⟨v, rfl, hv, hf, by omega⟩
  exact ⟨p, p1, p2, p3, by omega, p5⟩

/-! one relaxing -/
noncomputable def rel (l : List Arc) (f d : List Int) (i : Nat) (b : Bool) : List Int := if 0 < sRoom l f i b ∧ d.getD (fr l i b) 0 < INF ∧ d.getD (fr l i b) 0 + sLen l i b < d.getD (tw l i b) 0 then d.set (tw l i b) (d.getD (fr l i b) 0 + sLen l i b) else d

theorem rel_lab (hn : NetOk n l) (hp : Pot n l f S P) (a : Lab n l f S P d) {i : Nat} (b : Bool) (hi : i < l.length) : Lab n l f S P (rel l f d i b) := by
  unfold rel
  split
  · rename_i h
    exact (a.relax hn hp hi h.1 h.2.1 h.2.2).2
  · exact a

theorem rel_le (hn : NetOk n l) (a : Lab n l f S P d) {i : Nat} (b : Bool) (hi : i < l.length) (x : Nat) : (rel l f d i b).getD x 0 ≤ d.getD x 0 := by
  have h4 := (ends_ok hn hi b).2.2.2.1
  unfold rel
  split
  · rename_i h
    rw [getD_set _ _ _ _ _ (by rw [a.len]; exact h4)]
    split
    · rename_i e; rw [e]; omega
    · exact Int.le_refl _
  · exact Int.le_refl _

theorem rel_done (hn : NetOk n l) (a : Lab n l f S P d) {i : Nat} {b : Bool} (hi : i < l.length) (hr : 0 < sRoom l f i b) (hu : d.getD (fr l i b) 0 < INF) : (rel l f d i b).getD (tw l i b) 0 ≤ d.getD (fr l i b) 0 + sLen l i b := by
  have h4 := (ends_ok hn hi b).2.2.2.1
  unfold rel
  split
  · rename_i h
    rw [getD_set _ _ _ _ _ (by rw [a.len]; exact h4), if_pos rfl]
    exact Int.le_refl _
  · rename_i h
    exact Int.not_lt.1 (fun hh => h ⟨hr, hu, hh⟩)

/-- F's labels are not undercut -/
def Over (n : Int) (F d : List Int) : Prop := ∀ x, x < n.toNat → F.getD x 0 ≤ d.getD x 0

theorem rel_over {F : List Int} (hn : NetOk n l) (cF : Conv l f F) (a : Lab n l f S P d) (o : Over n F d) {i : Nat} (b : Bool) (hi : i < l.length) : Over n F (rel l f d i b) := by
  obtain ⟨_, _, h3, h4, _⟩ := ends_ok hn hi b
  intro x hx
  unfold rel
  split
  · rename_i h
    rw [getD_set _ _ _ _ _ (by rw [a.len]; exact h4)]
    split
    · rename_i e
      have o1 := o _ h3
      have := cF i b hi h.1 (by omega)
      rw [e]; omega
    · exact o x hx
  · exact o x hx

/-- a lasting label -/
theorem over_fin {F : List Int} (hn : NetOk n l) (hp : Pot n l f S P) (aF : Fin n l f S P F) (a : Lab n l f S P d) (o : Over n F d) (h : ∀ x, x < n.toNat → F.getD x 0 < INF → d.getD x 0 ≤ F.getD x 0) : d = F := by
  refine list_eq (by rw [a.len, aF.len]) (fun j hj => ?_)
  have hj2 : j < F.length := by rw [aF.len, ← a.len]; exact hj
  have hx : j < n.toNat := by rw [← a.len]; exact hj
  have e1 : d.getD j 0 = F.getD j 0 := by
    have q1 := o j hx
    have q2 := a.hi j hx
    have q3 := aF.hi j hx
    rcases Int.lt_or_le (F.getD j 0) INF with q | q
    · have := h j hx q; omega
    · omega
  rw [List.getD_eq_getElem?_getD, List.getD_eq_getElem?_getD, List.getElem?_eq_getElem hj, List.getElem?_eq_getElem hj2] at e1
  rw [List.getElem?_eq_getElem hj, List.getElem?_eq_getElem hj2]
  simpa using e1
end
end Go.Proofs.Ytgkpgigoonhgdaa.MCheap

/- Flows and cuts: what crosses a set of nodes, sets that no residual step leaves, the reached set of a greatest flow; no condition. -/
import Derived.Test.YtgkpgigoonhgdaaMNet
namespace Go.Proofs.Ytgkpgigoonhgdaa.MCut
open Go.RowKit Go.Proofs.YtgkpgigoonhgdaaW.PrintWords Go.Proofs.Ytgkpgigoonhgdaa.MBase Go.Proofs.Ytgkpgigoonhgdaa.MLists Go.Proofs.Ytgkpgigoonhgdaa.MNet
set_option linter.unusedVariables false

/-- no residual step leaves the set -/
def Closed (l : List Arc) (f : List Int) (s : Nat → Bool) : Prop := ∀ i, i < l.length → (s (at_ l i).u.toNat = true → f.getD i 0 < (at_ l i).r → s (at_ l i).v.toNat = true) ∧ (s (at_ l i).v.toNat = true → 0 < f.getD i 0 → s (at_ l i).u.toNat = true)

def outF (l : List Arc) (f : List Int) (s : Nat → Bool) (m : Nat) : Int := sumTo m (fun i => if s (at_ l i).u.toNat = true ∧ s (at_ l i).v.toNat = false then f.getD i 0 else 0)
def inF (l : List Arc) (f : List Int) (s : Nat → Bool) (m : Nat) : Int := sumTo m (fun i => if s (at_ l i).u.toNat = false ∧ s (at_ l i).v.toNat = true then f.getD i 0 else 0)
def cutS (l : List Arc) (s : Nat → Bool) (m : Nat) : Int := sumTo m (fun i => if s (at_ l i).u.toNat = true ∧ s (at_ l i).v.toNat = false then (at_ l i).r else 0)

theorem pick_sum (s : Nat → Bool) (N : Nat) (V F : Int) (h0 : 0 ≤ V) (h1 : V < N) : sumTo N (fun x => if s x = true then (if V = (x : Int) then F else 0) else 0) = if s V.toNat = true then F else 0 := by
  have e := sumTo_one (n := N) (fun i => if s i = true then F else 0) V.toNat (by omega)
  rw [← e]
  refine sumTo_congr (fun i hi => ?_)
  by_cases hv : i = V.toNat
  · rw [if_pos hv, if_pos (show V = (i : Int) by omega)]
  · rw [if_neg hv, if_neg (show ¬ V = (i : Int) by omega)]
    split <;> rfl

theorem cross {n : Int} {l : List Arc} {f : List Int} (hn : NetOk n l) (s : Nat → Bool) (m : Nat) (hm : m ≤ l.length) : sumTo n.toNat (fun x => if s x = true then exc l f m (x : Int) else 0) = inF l f s m - outF l f s m := by
  induction m with
  | zero =>
    have : sumTo n.toNat (fun x => if s x = true then exc l f 0 (x : Int) else 0) = sumTo n.toNat (fun _ => 0) := sumTo_congr (fun i _ => by
      have : exc l f 0 (i : Int) = 0 := rfl
      rw [this]; split <;> rfl)
    rw [this, sumTo_zero]
    rfl
  | succ m ih =>
    have ha := hn.2 m (by omega)
    obtain ⟨a1, a2, a3, a4, a5, _⟩ := ha
    have e : sumTo n.toNat (fun x => if s x = true then exc l f (m + 1) (x : Int) else 0) = sumTo n.toNat (fun x => (if s x = true then exc l f m (x : Int) else 0) + ((if s x = true then (if (at_ l m).v = (x : Int) then f.getD m 0 else 0) else 0) - (if s x = true then (if (at_ l m).u = (x : Int) then f.getD m 0 else 0) else 0))) :=
      sumTo_congr (fun i _ => by
        rw [exc_succ]
        by_cases hs : s i = true
        · rw [if_pos hs, if_pos hs, if_pos hs, if_pos hs]
        · rw [if_neg hs, if_neg hs, if_neg hs, if_neg hs]; rfl)
    rw [e, sumTo_add, sumTo_sub, pick_sum s n.toNat _ _ a3 (by omega), pick_sum s n.toNat _ _ a1 (by omega), ih (by omega)]
    unfold inF outF
    rw [sumTo, sumTo]
    generalize f.getD m 0 = F
    cases s (at_ l m).u.toNat <;> cases s (at_ l m).v.toNat <;> simp <;> omega

/-- the size of a flow is what crosses a set that holds node 0 and not node 1 -/
theorem size_cross {n : Int} {l : List Arc} {f : List Int} (h : FlowOk n l f) (s : Nat → Bool) (s0 : s 0 = true) (s1 : s 1 = false) : - exc l f l.length 0 = outF l f s l.length - inF l f s l.length := by
  have hc := cross (f := f) h.1 s l.length (Nat.le_refl _)
  have hn := h.1.1
  have e : sumTo n.toNat (fun x => if s x = true then exc l f l.length (x : Int) else 0) = sumTo n.toNat (fun x => if x = 0 then (fun x : Nat => exc l f l.length (x : Int)) x else 0) := sumTo_congr (fun i hi => by
    by_cases h0 : i = 0
    · subst h0; rw [if_pos s0, if_pos rfl]
    · rw [if_neg h0]
      by_cases h1 : i = 1
      · subst h1; rw [s1]; rfl
      · have := h.2.2.2 i (by omega) (by omega)
        rw [this]; split <;> rfl)
  rw [e, sumTo_one (fun x : Nat => exc l f l.length (x : Int)) 0 (by omega)] at hc
  simp only [Int.natCast_zero] at hc
  omega

theorem sumTo_eq_of_le {n : Nat} {f g : Nat → Int} (h : ∀ i, i < n → f i ≤ g i) (he : sumTo n f = sumTo n g) : ∀ i, i < n → f i = g i := by
  induction n with
  | zero => intro i hi; omega
  | succ n ih =>
    have a := sumTo_mono (n := n) (f := f) (g := g) (fun i hi => h i (by omega))
    have b := h n (by omega)
    rw [sumTo, sumTo] at he
    intro i hi
    by_cases e : i = n
    · subst e; omega
    · exact ih (fun i hi => h i (by omega)) (by omega) i (by omega)

theorem out_le {n : Int} {l : List Arc} {f : List Int} (h : FlowOk n l f) (s : Nat → Bool) : outF l f s l.length ≤ cutS l s l.length := sumTo_mono (fun i hi => by
  have := h.2.2.1 i hi
  split <;> omega)

theorem in_nonneg {n : Int} {l : List Arc} {f : List Int} (h : FlowOk n l f) (s : Nat → Bool) : 0 ≤ inF l f s l.length := sumTo_nonneg (fun i hi => by
  have := h.2.2.1 i hi
  split <;> omega)

theorem size_le_cut {n : Int} {l : List Arc} {f : List Int} (h : FlowOk n l f) (s : Nat → Bool) (s0 : s 0 = true) (s1 : s 1 = false) : - exc l f l.length 0 ≤ cutS l s l.length := by
  have a := size_cross h s s0 s1
  have b := out_le h s
  have c := in_nonneg h s
  omega

theorem closed_size {n : Int} {l : List Arc} {f : List Int} (h : FlowOk n l f) (s : Nat → Bool) (s0 : s 0 = true) (s1 : s 1 = false) (hc : Closed l f s) : - exc l f l.length 0 = cutS l s l.length := by
  have a := size_cross h s s0 s1
  have b : outF l f s l.length = cutS l s l.length := sumTo_congr (fun i hi => by
    have hr := h.2.2.1 i hi
    by_cases c : s (at_ l i).u.toNat = true ∧ s (at_ l i).v.toNat = false
    · rw [if_pos c, if_pos c]
      rcases Int.lt_or_le (f.getD i 0) (at_ l i).r with hlt | hle
      · have := (hc i hi).1 c.1 hlt
        rw [c.2] at this; cases this
      · omega
    · rw [if_neg c, if_neg c])
  have d : inF l f s l.length = 0 := by
    have : inF l f s l.length = sumTo l.length (fun _ => 0) := sumTo_congr (fun i hi => by
      have hr := h.2.2.1 i hi
      by_cases c : s (at_ l i).u.toNat = false ∧ s (at_ l i).v.toNat = true
      · rw [if_pos c]
        rcases Int.lt_or_le 0 (f.getD i 0) with hlt | hle
        · have := (hc i hi).2 c.2 hlt
          rw [c.1] at this; cases this
        · omega
      · rw [if_neg c])
    rw [this, sumTo_zero]
  omega

theorem tight_closed {n : Int} {l : List Arc} {f : List Int} (h : FlowOk n l f) (s : Nat → Bool) (s0 : s 0 = true) (s1 : s 1 = false) (he : - exc l f l.length 0 = cutS l s l.length) : Closed l f s := by
  have a := size_cross h s s0 s1
  have b := out_le h s
  have c := in_nonneg h s
  have e1 := sumTo_eq_of_le (n := l.length) (f := fun i => if s (at_ l i).u.toNat = true ∧ s (at_ l i).v.toNat = false then f.getD i 0 else 0) (g := fun i => if s (at_ l i).u.toNat = true ∧ s (at_ l i).v.toNat = false then (at_ l i).r else 0) (fun i hi => by
    have := h.2.2.1 i hi
    split <;> omega) (by show outF l f s l.length = cutS l s l.length; omega)
  have e2 := sumTo_eq_of_le (n := l.length) (f := fun _ => 0) (g := fun i => if s (at_ l i).u.toNat = false ∧ s (at_ l i).v.toNat = true then f.getD i 0 else 0) (fun i hi => by
    have := h.2.2.1 i hi
    split <;> omega) (by rw [sumTo_zero]; show 0 = inF l f s l.length; omega)
  intro i hi
  have q1 := e1 i hi
  have q2 := e2 i hi
  refine ⟨fun hu hlt => ?_, fun hv hlt => ?_⟩
  · cases hv : s (at_ l i).v.toNat with
    | true => rfl
    | false => simp only [hu, hv, and_self, if_true] at q1; omega
  · cases hu : s (at_ l i).u.toNat with
    | true => rfl
    | false => simp only [hu, hv, and_self, if_true] at q2; omega

/-- the set that is reached from node 0: the least one that no residual step leaves -/
structure Rch (l : List Arc) (f : List Int) (s : Nat → Bool) : Prop where
  zero : s 0 = true
  closed : Closed l f s
  least : ∀ t : Nat → Bool, t 0 = true → Closed l f t → ∀ x, s x = true → t x = true

theorem Rch.unique {l : List Arc} {f : List Int} {s t : Nat → Bool} (a : Rch l f s) (b : Rch l f t) (x : Nat) : s x = t x := by
  have h1 := a.least t b.zero b.closed x
  have h2 := b.least s a.zero a.closed x
  cases hs : s x with
  | true => rw [h1 hs]
  | false =>
    cases ht : t x with
    | false => rfl
    | true => rw [h2 ht] at hs; cases hs

/-- two flows that do not reach node 1 have one size and one reached set -/
theorem max_same {n : Int} {l : List Arc} {f g : List Int} {s t : Nat → Bool} (hf : FlowOk n l f) (hg : FlowOk n l g) (a : Rch l f s) (b : Rch l g t) (s1 : s 1 = false) (t1 : t 1 = false) : (∀ x, s x = t x) ∧ exc l f l.length 0 = exc l g l.length 0 := by
  have e1 := closed_size hf s a.zero s1 a.closed
  have e2 := closed_size hg t b.zero t1 b.closed
  have e3 := size_le_cut hf t b.zero t1
  have e4 := size_le_cut hg s a.zero s1
  have c1 := tight_closed hg s a.zero s1 (by omega)
  have c2 := tight_closed hf t b.zero t1 (by omega)
  refine ⟨fun x => ?_, by omega⟩
  have h1 := a.least t b.zero c2 x
  have h2 := b.least s a.zero c1 x
  cases hs : s x with
  | true => rw [h1 hs]
  | false =>
    cases ht : t x with
    | false => rfl
    | true => rw [h2 ht] at hs; cases hs

/-! steps of the residual net: along an arc (false) or against it (true) -/
def sFrom (l : List Arc) (i : Nat) (b : Bool) : Int := if b = true then (at_ l i).v else (at_ l i).u
def sTo (l : List Arc) (i : Nat) (b : Bool) : Int := if b = true then (at_ l i).u else (at_ l i).v
def sRoom (l : List Arc) (f : List Int) (i : Nat) (b : Bool) : Int := if b = true then f.getD i 0 else (at_ l i).r - f.getD i 0
def push (f : List Int) (i : Nat) (b : Bool) (d : Int) : List Int := f.set i (f.getD i 0 + (if b = true then -d else d))
def pushAll (f : List Int) (p : List (Nat × Bool)) (d : Int) : List Int := p.foldl (fun f s => push f s.1 s.2 d) f

theorem push_len (f : List Int) (i : Nat) (b : Bool) (d : Int) : (push f i b d).length = f.length := List.length_set
theorem pushAll_len (p : List (Nat × Bool)) (d : Int) : ∀ f : List Int, (pushAll f p d).length = f.length := by
  induction p with
  | nil => intro f; rfl
  | cons x p ih => intro f; rw [pushAll, List.foldl_cons]; exact (ih _).trans (push_len _ _ _ _)

theorem push_get {f : List Int} {i j : Nat} {b : Bool} {d : Int} (hi : i < f.length) : (push f i b d).getD j 0 = if j = i then f.getD i 0 + (if b = true then -d else d) else f.getD j 0 := getD_set _ _ _ _ _ hi

theorem exc_push {l : List Arc} {f : List Int} {i : Nat} {b : Bool} {d : Int} (hi : i < f.length) (m : Nat) (x : Int) : exc l (push f i b d) m x = exc l f m x + (if i < m then (if sTo l i b = x then d else 0) - (if sFrom l i b = x then d else 0) else 0) := by
  induction m with
  | zero => rw [if_neg (show ¬ i < 0 by omega)]; rfl
  | succ m ih =>
    rw [exc_succ, exc_succ, ih, push_get hi]
    by_cases h1 : m = i
    · subst h1
      rw [if_neg (show ¬ m < m by omega), if_pos (show m = m from rfl), if_pos (show m < m + 1 by omega)]
      unfold sTo sFrom
      generalize f.getD m 0 = F
      cases b
      · simp only [Bool.false_eq_true, if_false]
        by_cases c1 : (at_ l m).v = x <;> by_cases c2 : (at_ l m).u = x <;> simp only [c1, c2, if_true, if_false] <;> omega
      · simp only [if_true]
        by_cases c1 : (at_ l m).v = x <;> by_cases c2 : (at_ l m).u = x <;> simp only [c1, c2, if_true, if_false] <;> omega
    · rw [if_neg (show ¬ m = i from h1)]
      by_cases h2 : i < m
      · rw [if_pos (show i < m from h2), if_pos (show i < m + 1 by omega)]; omega
      · rw [if_neg (show ¬ i < m from h2), if_neg (show ¬ i < m + 1 by omega)]; omega

/-- a way back to node 0, step by step -/
def PathL (l : List Arc) : List (Nat × Bool) → Int → Prop
  | [], v => v = 0
  | (i, b) :: p, v => i < l.length ∧ sTo l i b = v ∧ PathL l p (sFrom l i b)

theorem exc_pushAll {l : List Arc} (d : Int) (p : List (Nat × Bool)) : ∀ (f : List Int) (v x : Int), f.length = l.length → PathL l p v → exc l (pushAll f p d) l.length x = exc l f l.length x + ((if v = x then d else 0) - (if 0 = x then d else 0)) := by
  induction p with
  | nil =>
    intro f v x hf hp
    have hp' : v = 0 := hp
    subst hp'
    show exc l f l.length x = _
    omega
  | cons s p ih =>
    intro f v x hf hp
    obtain ⟨i, b⟩ := s
    obtain ⟨h1, h2, h3⟩ := hp
    have e := ih (push f i b d) (sFrom l i b) x (by rw [push_len]; exact hf) h3
    show exc l (pushAll (push f i b d) p d) l.length x = _
    rw [e, exc_push (by omega), if_pos h1, h2]
    omega

theorem pushAll_other (d : Int) (p : List (Nat × Bool)) : ∀ (f : List Int) (j : Nat), (∀ s, s ∈ p → s.1 < f.length) → (∀ s, s ∈ p → s.1 ≠ j) → (pushAll f p d).getD j 0 = f.getD j 0 := by
  induction p with
  | nil => intro f j _ _; rfl
  | cons s p ih =>
    intro f j hl hj
    show (pushAll (push f s.1 s.2 d) p d).getD j 0 = _
    rw [ih _ _ (fun t ht => by rw [push_len]; exact hl t (List.mem_cons_of_mem _ ht)) (fun t ht => hj t (List.mem_cons_of_mem _ ht)), push_get (hl s (List.mem_cons_self ..)), if_neg (fun e => hj s (List.mem_cons_self ..) e.symm)]

theorem pushAll_this (d : Int) (p : List (Nat × Bool)) : ∀ (f : List Int) (j : Nat) (b : Bool), (∀ s, s ∈ p → s.1 < f.length) → (p.map Prod.fst).Nodup → (j, b) ∈ p → (pushAll f p d).getD j 0 = f.getD j 0 + (if b = true then -d else d) := by
  induction p with
  | nil => intro f j b _ _ h; cases h
  | cons s p ih =>
    intro f j b hl hn hm
    show (pushAll (push f s.1 s.2 d) p d).getD j 0 = _
    rw [List.map_cons, List.nodup_cons] at hn
    have hl' : ∀ t, t ∈ p → t.1 < (push f s.1 s.2 d).length := fun t ht => by rw [push_len]; exact hl t (List.mem_cons_of_mem _ ht)
    rcases List.mem_cons.1 hm with e | e
    · subst e
      rw [pushAll_other d p _ _ hl' (fun t ht e => hn.1 (List.mem_map.2 ⟨t, ht, e⟩)), push_get (hl _ (List.mem_cons_self ..)), if_pos rfl]
    · have hne : j ≠ s.1 := fun e2 => hn.1 (List.mem_map.2 ⟨(j, b), e, e2⟩)
      rw [ih _ j b hl' hn.2 e, push_get (hl _ (List.mem_cons_self ..)), if_neg hne]

theorem pathL_lt {l : List Arc} (p : List (Nat × Bool)) : ∀ v, PathL l p v → ∀ s, s ∈ p → s.1 < l.length := by
  induction p with
  | nil => intro v _ s hs; cases hs
  | cons t p ih =>
    intro v hp s hs
    obtain ⟨i, b⟩ := t
    rcases List.mem_cons.1 hs with e | e
    · rw [e]; exact hp.1
    · exact ih _ hp.2.2 s e

/-- pushing d along a way from node 0 to node 1 whose steps have room makes a flow that is greater by d -/
theorem push_flow {n : Int} {l : List Arc} {f : List Int} (h : FlowOk n l f) (p : List (Nat × Bool)) (hp : PathL l p 1) (hn : (p.map Prod.fst).Nodup) (d : Int) (hd : 0 ≤ d) (hr : ∀ s, s ∈ p → d ≤ sRoom l f s.1 s.2) : FlowOk n l (pushAll f p d) ∧ exc l (pushAll f p d) l.length 0 = exc l f l.length 0 - d := by
  have hlt : ∀ s, s ∈ p → s.1 < f.length := fun s hs => by rw [h.2.1]; exact pathL_lt p 1 hp s hs
  have he := fun x => exc_pushAll d p f 1 x h.2.1 hp
  refine ⟨⟨h.1, by rw [pushAll_len]; exact h.2.1, fun i hi => ?_, fun x hx hxn => ?_⟩, ?_⟩
  · have hir := h.2.2.1 i hi
    by_cases hm : ∃ b, (i, b) ∈ p
    · obtain ⟨b, hb⟩ := hm
      have r := hr _ hb
      rw [pushAll_this d p f i b hlt hn hb]
      cases b
      · simp only [sRoom, Bool.false_eq_true, if_false] at r ⊢; omega
      · simp only [sRoom, if_true] at r ⊢; omega
    · rw [pushAll_other d p f i hlt (fun s hs e => hm ⟨s.2, by rw [← e]; exact hs⟩)]
      exact hir
  · rw [he, h.2.2.2 x hx hxn, if_neg (by omega), if_neg (by omega)]; omega
  · rw [he, if_neg (by omega), if_pos rfl]; omega

/-! ways back to node 0 along noted steps, whose ranks fall -/
def Follow (l : List Arc) (By : Int → Nat → Bool → Prop) : List (Nat × Bool) → Int → Prop
  | [], v => v = 0
  | (i, b) :: p, v => v ≠ 0 ∧ By v i b ∧ Follow l By p (sFrom l i b)

theorem way_of {l : List Arc} {f : List Int} {By : Int → Nat → Bool → Prop} {R : Nat → Int → Prop} (hu : ∀ a b v, R a v → R b v → a = b)
    (hs : ∀ a v, R a v → v ≠ 0 → ∃ (i : Nat) (b : Bool) (c : Nat), By v i b ∧ i < l.length ∧ sTo l i b = v ∧ 0 < sRoom l f i b ∧ R c (sFrom l i b) ∧ c < a) (m : Nat) :
    ∀ a v, a ≤ m → R a v → ∃ p, PathL l p v ∧ Follow l By p v ∧ (p.map Prod.fst).Nodup ∧ p.length ≤ a ∧ (∀ s, s ∈ p → 0 < sRoom l f s.1 s.2) ∧ ∀ s, s ∈ p → ∃ c c', R c (sTo l s.1 s.2) ∧ c ≤ a ∧ R c' (sFrom l s.1 s.2) ∧ c' < c := by
  induction m with
  | zero =>
    intro a v ha hr
    by_cases h0 : v = 0
    · exact ⟨[], h0, h0, List.nodup_nil, Nat.zero_le _, fun s hs => (by cases hs), fun s hs => (by cases hs)⟩
    · obtain ⟨i, b, c, _, _, _, _, _, hc⟩ := hs a v hr h0
      omega
  | succ m ih =>
    intro a v ha hr
    by_cases h0 : v = 0
    · exact ⟨[], h0, h0, List.nodup_nil, Nat.zero_le _, fun s hs => (by cases hs), fun s hs => (by cases hs)⟩
    · obtain ⟨i, b, c, h1, h2, h3, h4, h5, h6⟩ := hs a v hr h0
      obtain ⟨p, p1, p2, p3, p4, p5, p6⟩ := ih c _ (by omega) h5
      refine ⟨(i, b) :: p, ⟨h2, h3, p1⟩, ⟨h0, h1, p2⟩, ?_, by simp; omega, ?_, ?_⟩
      · rw [List.map_cons, List.nodup_cons]
        refine ⟨fun hm => ?_, p3⟩
        obtain ⟨s, hs1, hs2⟩ := List.mem_map.1 hm
        obtain ⟨i', b'⟩ := s
        have hs2' : i' = i := hs2
        subst hs2'
        obtain ⟨e, e', q1, q2, q3, q4⟩ := p6 _ hs1
        have q1' : R e (sTo l i' b') := q1
        have q3' : R e' (sFrom l i' b') := q3
        cases b <;> cases b'
        · have := hu _ _ _ (h3 ▸ q1') hr
          omega
        · have hx : sTo l i' true = sFrom l i' false := rfl
          have hy : sFrom l i' true = sTo l i' false := rfl
          rw [hy, h3] at q3'
          have := hu _ _ _ q3' hr
          omega
        · have hy : sFrom l i' false = sTo l i' true := rfl
          rw [hy, h3] at q3'
          have := hu _ _ _ q3' hr
          omega
        · have := hu _ _ _ (h3 ▸ q1') hr
          omega
      · intro s hs'
        rcases List.mem_cons.1 hs' with e | e
        · rw [e]; exact h4
        · exact p5 s e
      · intro s hs'
        rcases List.mem_cons.1 hs' with e | e
        · rw [e]; exact ⟨a, c, by rw [h3]; exact hr, Nat.le_refl _, h5, h6⟩
        · obtain ⟨x, x', y1, y2, y3, y4⟩ := p6 s e
          exact ⟨x, x', y1, by omega, y3, y4⟩

/-! a search by a queue -/
structure Bfs (N : Nat) (l : List Arc) (f : List Int) (By : Int → Nat → Bool → Prop) (h : Nat) (seen : List Bool) (Q : List Int) : Prop where
  len : seen.length = N
  inQ : ∀ a : Nat, a < Q.length → 0 ≤ Q.getD a 0 ∧ Q.getD a 0 < N ∧ seen.getD (Q.getD a 0).toNat false = true
  inj : ∀ a b : Nat, a < Q.length → b < Q.length → Q.getD a 0 = Q.getD b 0 → a = b
  all : ∀ x : Nat, seen.getD x false = true → ∃ a : Nat, a < Q.length ∧ Q.getD a 0 = x
  first : 0 < Q.length ∧ Q.getD 0 0 = 0
  par : ∀ a : Nat, 0 < a → a < Q.length → ∃ (i : Nat) (b : Bool) (c : Nat), By (Q.getD a 0) i b ∧ i < l.length ∧ sTo l i b = Q.getD a 0 ∧ 0 < sRoom l f i b ∧ c < a ∧ sFrom l i b = Q.getD c 0
  done : ∀ a : Nat, a < h → a < Q.length → ∀ (i : Nat) (b : Bool), i < l.length → sFrom l i b = Q.getD a 0 → 0 < sRoom l f i b → seen.getD (sTo l i b).toNat false = true

def unseen (N : Nat) (seen : List Bool) : Int := sumTo N (fun i => if seen.getD i false = true then 0 else 1)

theorem unseen_bound (N : Nat) (seen : List Bool) : 0 ≤ unseen N seen ∧ unseen N seen ≤ N := by
  have h := sumTo_nonneg (n := N) (f := fun i => if seen.getD i false = true then (0 : Int) else 1) (fun i _ => by split <;> omega)
  have h2 := (sumTo_bound (n := N) (f := fun i => if seen.getD i false = true then (0 : Int) else 1) (B := 1) (by omega) (fun i _ => by split <;> omega)).2
  unfold unseen
  omega

theorem unseen_set {N : Nat} {seen : List Bool} (hl : seen.length = N) {y : Nat} (hy : y < N) (hs : seen.getD y false = false) : unseen N (seen.set y true) = unseen N seen - 1 := by
  have h3 : sumTo N (fun i => if i = y then (1 : Int) else 0) = 1 := sumTo_one (fun _ => 1) y hy
  have h2 : unseen N (seen.set y true) = sumTo N (fun i => (if seen.getD i false = true then (0 : Int) else 1) - (if i = y then (1 : Int) else 0)) :=
    sumTo_congr (fun i hi => by
      rw [getD_set _ _ _ _ _ (by omega)]
      by_cases c : i = y
      · subst c; rw [if_pos rfl, if_pos rfl, if_neg (by rw [hs]; simp), if_pos rfl]; omega
      · rw [if_neg c, if_neg c]; split <;> omega)
  rw [h2, sumTo_sub, h3]
  rfl

theorem getD_app (Q : List Int) (y : Int) (a : Nat) : (Q ++ [y]).getD a 0 = if a < Q.length then Q.getD a 0 else if a = Q.length then y else 0 := by
  rw [List.getD_eq_getElem?_getD, List.getD_eq_getElem?_getD, List.getElem?_append]
  by_cases h1 : a < Q.length
  · rw [if_pos h1, if_pos h1]
  · rw [if_neg h1, if_neg h1]
    by_cases h2 : a = Q.length
    · rw [if_pos h2, show a - Q.length = 0 by omega]; rfl
    · rw [if_neg h2, List.getElem?_eq_none (by simp; omega)]; rfl

theorem Bfs.sound {N : Nat} {l : List Arc} {f : List Int} {By : Int → Nat → Bool → Prop} {h : Nat} {seen : List Bool} {Q : List Int} (q : Bfs N l f By h seen Q) (t : Nat → Bool) (t0 : t 0 = true) (tc : Closed l f t) (m : Nat) : ∀ a, a ≤ m → a < Q.length → t (Q.getD a 0).toNat = true := by
  induction m with
  | zero =>
    intro a ha hq
    obtain rfl : a = 0 := by omega
    rw [q.first.2]; exact t0
  | succ m ih =>
    intro a ha hq
    by_cases h0 : a = 0
    · subst h0; rw [q.first.2]; exact t0
    · obtain ⟨i, b, c, h1, h2, h3, h4, h5, h6⟩ := q.par a (by omega) hq
      have := ih c (by omega) (by omega)
      rw [← h6] at this
      rw [← h3]
      cases b
      · exact (tc i h2).1 this (by simp only [sRoom, Bool.false_eq_true, if_false] at h4; omega)
      · exact (tc i h2).2 this (by simpa only [sRoom, if_true] using h4)

theorem Bfs.reach {N : Nat} {l : List Arc} {f : List Int} {By : Int → Nat → Bool → Prop} {h : Nat} {seen : List Bool} {Q : List Int} (q : Bfs N l f By h seen Q) (hh : Q.length ≤ h) (ha : ∀ i, i < l.length → 0 ≤ (at_ l i).u ∧ 0 ≤ (at_ l i).v) : Rch l f (fun x => seen.getD x false) where
  zero := by have := (q.inQ 0 q.first.1).2.2; rw [q.first.2] at this; exact this
  closed := by
    intro i hi
    have hi2 := ha i hi
    refine ⟨fun hu hlt => ?_, fun hv hlt => ?_⟩
    · obtain ⟨a, ha1, ha2⟩ := q.all _ hu
      exact q.done a (by omega) ha1 i false hi (by show (at_ l i).u = _; omega) (by show 0 < (at_ l i).r - f.getD i 0; omega)
    · obtain ⟨a, ha1, ha2⟩ := q.all _ hv
      exact q.done a (by omega) ha1 i true hi (by show (at_ l i).v = _; omega) (by show 0 < f.getD i 0; omega)
  least := by
    intro t t0 tc x hx
    obtain ⟨a, ha1, ha2⟩ := q.all x hx
    have := q.sound t t0 tc a a (Nat.le_refl _) ha1
    rw [ha2, Int.toNat_natCast] at this
    exact this

/-- a seen node has a way back to node 0 -/
theorem Bfs.way {N : Nat} {l : List Arc} {f : List Int} {By : Int → Nat → Bool → Prop} {h : Nat} {seen : List Bool} {Q : List Int} (q : Bfs N l f By h seen Q) {v : Nat} (hv : seen.getD v false = true) :
    ∃ p, PathL l p v ∧ Follow l By p v ∧ (p.map Prod.fst).Nodup ∧ p.length ≤ Q.length ∧ ∀ s, s ∈ p → 0 < sRoom l f s.1 s.2 := by
  obtain ⟨a, ha1, ha2⟩ := q.all v hv
  have := way_of (l := l) (f := f) (By := By) (R := fun a v => a < Q.length ∧ Q.getD a 0 = v) (fun a b v x y => q.inj a b x.1 y.1 (by rw [x.2, y.2])) (fun a v x hv0 => by
    have h0 : 0 < a := by
      rcases Nat.eq_zero_or_pos a with e | e
      · rw [← x.2, e] at hv0; exact absurd q.first.2 hv0
      · exact e
    obtain ⟨i, b, c, h1, h2, h3, h4, h5, h6⟩ := q.par a h0 x.1
    exact ⟨i, b, c, by rw [← x.2]; exact h1, h2, by rw [← x.2]; exact h3, h4, ⟨by omega, h6.symm⟩, h5⟩) a a v (Nat.le_refl _) ⟨ha1, ha2⟩
  obtain ⟨p, p1, p2, p3, p4, p5, _⟩ := this
  exact ⟨p, p1, p2, p3, by omega, p5⟩

/-- a step that leads to an unseen node: the node is seen, and waits -/
theorem Bfs.put {N : Nat} {l : List Arc} {f : List Int} {By By' : Int → Nat → Bool → Prop} {h : Nat} {seen : List Bool} {Q : List Int} (q : Bfs N l f By h seen Q) (hh : h < Q.length) {i : Nat} {b : Bool} (hi : i < l.length) (hf : sFrom l i b = Q.getD h 0) (hr : 0 < sRoom l f i b) (y0 : 0 ≤ sTo l i b) (y1 : sTo l i b < N) (hs : seen.getD (sTo l i b).toNat false = false)
    (hB : By' (sTo l i b) i b) (hB2 : ∀ v j c, v ≠ sTo l i b → By v j c → By' v j c) : Bfs N l f By' h (seen.set (sTo l i b).toNat true) (Q ++ [sTo l i b]) := by
  have hl : (Q ++ [sTo l i b]).length = Q.length + 1 := by simp
  have hset : ∀ x : Nat, (seen.set (sTo l i b).toNat true).getD x false = if x = (sTo l i b).toNat then true else seen.getD x false := fun x => getD_set _ _ _ _ _ (by rw [q.len]; omega)
  have hne : ∀ a, a < Q.length → Q.getD a 0 ≠ sTo l i b := fun a ha e => by
    have := (q.inQ a ha).2.2
    rw [e, hs] at this; cases this
  have ht : ((sTo l i b).toNat : Int) = sTo l i b := by omega
  generalize hy : sTo l i b = y at *
  refine ⟨by rw [List.length_set]; exact q.len, fun a ha => ?_, fun a c ha hc e => ?_, fun x hx => ?_, ⟨by omega, by rw [getD_app, if_pos q.first.1]; exact q.first.2⟩, fun a h0 ha => ?_, fun a hah ha j c hj hjf hjr => ?_⟩
  · rw [getD_app]
    by_cases h1 : a < Q.length
    · rw [if_pos h1]
      have := q.inQ a h1
      refine ⟨this.1, this.2.1, ?_⟩
      rw [hset]; split
      · rfl
      · exact this.2.2
    · rw [if_neg h1, if_pos (by omega)]
      exact ⟨y0, y1, by rw [hset, if_pos rfl]⟩
  · rw [getD_app, getD_app] at e
    by_cases h1 : a < Q.length
    · rw [if_pos h1] at e
      by_cases h2 : c < Q.length
      · rw [if_pos h2] at e; exact q.inj a c h1 h2 e
      · rw [if_neg h2, if_pos (by omega)] at e; exact absurd e (hne a h1)
    · rw [if_neg h1, if_pos (by omega)] at e
      by_cases h2 : c < Q.length
      · rw [if_pos h2] at e; exact absurd e.symm (hne c h2)
      · omega
  · rw [hset] at hx
    by_cases h1 : x = y.toNat
    · exact ⟨Q.length, by omega, by rw [getD_app, if_neg (by omega), if_pos rfl]; omega⟩
    · rw [if_neg h1] at hx
      obtain ⟨a, ha1, ha2⟩ := q.all x hx
      exact ⟨a, by omega, by rw [getD_app, if_pos ha1]; exact ha2⟩
  · by_cases h1 : a < Q.length
    · obtain ⟨i', b', c, e1, e2, e3, e4, e5, e6⟩ := q.par a h0 h1
      refine ⟨i', b', c, ?_, e2, ?_, e4, e5, ?_⟩
      · rw [getD_app, if_pos h1]; exact hB2 _ _ _ (hne a h1) e1
      · rw [getD_app, if_pos h1]; exact e3
      · rw [getD_app, if_pos (by omega)]; exact e6
    · obtain rfl : a = Q.length := by omega
      have e : (Q ++ [y]).getD Q.length 0 = y := by rw [getD_app, if_neg (by omega), if_pos rfl]
      exact ⟨i, b, h, by rw [e]; exact hB, hi, by rw [e]; exact hy, hr, hh, by rw [getD_app, if_pos hh]; exact hf⟩
  · rw [getD_app, if_pos (by omega)] at hjf
    have := q.done a hah (by omega) j c hj hjf hjr
    rw [hset]; split
    · rfl
    · exact this
end Go.Proofs.Ytgkpgigoonhgdaa.MCut

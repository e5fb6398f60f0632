/- The queue of nodes to relax from, rounds of relaxing, the first tight step; no condition. -/
import Derived.Test.YtgkpgigoonhgdaaMCheap
namespace Go.Proofs.Ytgkpgigoonhgdaa.MSpfa
open Go.RowKit Go.Proofs.YtgkpgigoonhgdaaW.PrintWords Go.Proofs.Ytgkpgigoonhgdaa.MBase Go.Proofs.Ytgkpgigoonhgdaa.MLists Go.Proofs.Ytgkpgigoonhgdaa.MNet Go.Proofs.Ytgkpgigoonhgdaa.MCut Go.Proofs.Ytgkpgigoonhgdaa.MDist Go.Proofs.Ytgkpgigoonhgdaa.MCheap
set_option linter.unusedVariables false

theorem unseen_unset {N : Nat} {seen : List Bool} (hl : seen.length = N) {y : Nat} (hy : y < N) (hs : seen.getD y false = true) : unseen N (seen.set y false) = unseen N seen + 1 := by
  have h3 : sumTo N (fun i => if i = y then (1 : Int) else 0) = 1 := sumTo_one (fun _ => 1) y hy
  have h2 : unseen N (seen.set y false) = sumTo N (fun i => (if seen.getD i false = true then (0 : Int) else 1) + (if i = y then (1 : Int) else 0)) :=
    sumTo_congr (fun i hi => by
      rw [getD_set _ _ _ _ _ (by omega)]
      by_cases c : i = y
      · subst c; rw [if_pos rfl, if_neg (by simp), if_pos hs, if_pos rfl]; rfl
      · rw [if_neg c, if_neg c]; split <;> omega)
  rw [h2, sumTo_add, h3]
  rfl

theorem unseen_all (N : Nat) : unseen N (List.replicate N false) = N := by
  have hrep : ∀ x : Nat, (List.replicate N false).getD x false = false := fun x => by
    rw [List.getD_eq_getElem?_getD, List.getElem?_replicate]; split <;> rfl
  unfold unseen
  have : sumTo N (fun i => if (List.replicate N false).getD i false = true then (0 : Int) else 1) = sumTo N (fun _ => 1) := sumTo_congr (fun i _ => by rw [hrep]; rfl)
  rw [this]
  clear this hrep
  induction N with
  | zero => rfl
  | succ N ih => rw [sumTo, ih]; omega

section
variable {n : Int} {l : List Arc} {f : List Int} {S : Nat → Bool} {P : Nat → Int}

/-- what is known while the steps out of v are scanned; R tells those that were -/
structure Scn (n : Int) (l : List Arc) (f : List Int) (S : Nat → Bool) (P : Nat → Int) (v : Nat) (R : Nat → Bool → Prop) (d : List Int) (W : List Bool) (T : List Int) : Prop where
  lab : Lab n l f S P d
  wl : W.length = n.toNat
  nod : T.Nodup
  mem : ∀ x : Nat, x < n.toNat → (W.getD x false = true ↔ (x : Int) ∈ T)
  rng : ∀ x, x ∈ T → 0 ≤ x ∧ x < n ∧ d.getD x.toNat 0 < INF
  cnt : unseen n.toNat W + T.length = n.toNat
  vn : v < n.toNat
  vf : d.getD v 0 < INF
  conv : ∀ i b, i < l.length → 0 < sRoom l f i b → d.getD (fr l i b) 0 < INF → d.getD (tw l i b) 0 ≤ d.getD (fr l i b) 0 + sLen l i b ∨ (fr l i b : Int) ∈ T ∨ (fr l i b = v ∧ ¬ R i b)

/-- what is known when the queue's head is to be taken -/
structure Que (n : Int) (l : List Arc) (f : List Int) (S : Nat → Bool) (P : Nat → Int) (d : List Int) (W : List Bool) (Q : List Int) : Prop where
  lab : Lab n l f S P d
  wl : W.length = n.toNat
  rng : ∀ x, x ∈ Q → 0 ≤ x ∧ x < n ∧ d.getD x.toNat 0 < INF
  conv : ∀ i b, i < l.length → 0 < sRoom l f i b → d.getD (fr l i b) 0 < INF → d.getD (tw l i b) 0 ≤ d.getD (fr l i b) 0 + sLen l i b ∨ (fr l i b : Int) ∈ Q
  pop : ∀ h T, Q = h :: T → T.Nodup ∧ (∀ x : Nat, x < n.toNat → ((W.set h.toNat false).getD x false = true ↔ (x : Int) ∈ T)) ∧ unseen n.toNat (W.set h.toNat false) + T.length = n.toNat

theorem Que.fin {d : List Int} {W : List Bool} (q : Que n l f S P d W []) : Fin n l f S P d :=
  { q.lab with conv := fun i b hi hr hu => (q.conv i b hi hr hu).resolve_right (by simp) }

theorem Que.take {d : List Int} {W : List Bool} {h : Int} {T : List Int} (q : Que n l f S P d W (h :: T)) : Scn n l f S P h.toNat (fun _ _ => False) d (W.set h.toNat false) T := by
  obtain ⟨p1, p2, p3⟩ := q.pop h T rfl
  have hh := q.rng h (List.mem_cons_self ..)
  refine ⟨q.lab, by rw [List.length_set]; exact q.wl, p1, p2, fun x hx => q.rng x (List.mem_cons_of_mem _ hx), p3, by omega, hh.2.2, fun i b hi hr hu => ?_⟩
  rcases q.conv i b hi hr hu with c | c
  · exact .inl c
  · rcases List.mem_cons.1 c with c | c
    · exact .inr (.inr ⟨by omega, fun h => h⟩)
    · exact .inr (.inl c)

theorem Scn.done {v : Nat} {R : Nat → Bool → Prop} {d : List Int} {W : List Bool} {T : List Int} (q : Scn n l f S P v R d W T) (hR : ∀ i b, i < l.length → fr l i b = v → R i b) : Que n l f S P d W T := by
  refine ⟨q.lab, q.wl, q.rng, fun i b hi hr hu => ?_, fun h T' e => ?_⟩
  · rcases q.conv i b hi hr hu with c | c | ⟨c1, c2⟩
    · exact .inl c
    · exact .inr c
    · exact absurd (hR i b hi c1) c2
  · subst e
    have hn := List.nodup_cons.1 q.nod
    have hh := q.rng h (List.mem_cons_self ..)
    have hwh := (q.mem h.toNat (by omega)).2 (by rw [show ((h.toNat : Nat) : Int) = h by omega]; exact List.mem_cons_self ..)
    refine ⟨hn.2, fun x hx => ?_, ?_⟩
    · rw [getD_set _ _ _ _ _ (by rw [q.wl]; omega)]
      by_cases e : x = h.toNat
      · rw [if_pos e]
        constructor
        · intro c; cases c
        · intro c
          have e2 : (x : Int) = h := by omega
          rw [e2] at c
          exact absurd c hn.1
      · rw [if_neg e, q.mem x hx, List.mem_cons]
        constructor
        · intro c
          rcases c with c | c
          · omega
          · exact c
        · exact fun c => .inr c
    · have hu := unseen_unset q.wl (y := h.toNat) (by omega) hwh
      have hc := q.cnt
      rw [List.length_cons] at hc
      omega

/-- a step that relaxes nothing -/
theorem Scn.skip {v : Nat} {R : Nat → Bool → Prop} {d : List Int} {W : List Bool} {T : List Int} (q : Scn n l f S P v R d W T) {i : Nat} {b : Bool} (hs : 0 < sRoom l f i b → fr l i b = v → d.getD (tw l i b) 0 ≤ d.getD v 0 + sLen l i b) : Scn n l f S P v (fun j c => R j c ∨ (j = i ∧ c = b)) d W T :=
  { q with
    conv := fun j c hj hr hu => by
      rcases q.conv j c hj hr hu with e | e | ⟨e1, e2⟩
      · exact .inl e
      · exact .inr (.inl e)
      · by_cases e3 : j = i ∧ c = b
        · obtain ⟨rfl, rfl⟩ := e3
          exact .inl (by rw [e1]; exact hs hr e1)
        · exact .inr (.inr ⟨e1, fun h => h.elim e2 e3⟩) }

/-- a step that relaxes its end -/
theorem Scn.relax (hn : NetOk n l) (hp : Pot n l f S P) {v : Nat} {R : Nat → Bool → Prop} {d : List Int} {W : List Bool} {T : List Int} (q : Scn n l f S P v R d W T) {i : Nat} {b : Bool} (hi : i < l.length) (hr : 0 < sRoom l f i b) (hv : fr l i b = v) (hlt : d.getD v 0 + sLen l i b < d.getD (tw l i b) 0) :
    (W.getD (tw l i b) false = true → Scn n l f S P v (fun j c => R j c ∨ (j = i ∧ c = b)) (d.set (tw l i b) (d.getD v 0 + sLen l i b)) W T) ∧
    (W.getD (tw l i b) false = false → Scn n l f S P v (fun j c => R j c ∨ (j = i ∧ c = b)) (d.set (tw l i b) (d.getD v 0 + sLen l i b)) (W.set (tw l i b) true) (T ++ [(tw l i b : Int)])) := by
  obtain ⟨e1, e2, e3, e4, e5, _⟩ := ends_ok hn hi b
  have hvf := q.vf
  have hrel := q.lab.relax hn hp hi hr (by rw [hv]; exact hvf) (by rw [hv]; exact hlt)
  rw [hv] at hrel e5
  have hhi := q.lab.hi _ e4
  have hset : ∀ x : Nat, (d.set (tw l i b) (d.getD v 0 + sLen l i b)).getD x 0 = if x = tw l i b then d.getD v 0 + sLen l i b else d.getD x 0 := fun x => getD_set _ _ _ _ _ (by rw [q.lab.len]; exact e4)
  have hle : ∀ x : Nat, (d.set (tw l i b) (d.getD v 0 + sLen l i b)).getD x 0 ≤ d.getD x 0 := fun x => by
    rw [hset]; split
    · rename_i e; rw [e]; omega
    · exact Int.le_refl _
  have hrng : ∀ x, x ∈ T → 0 ≤ x ∧ x < n ∧ (d.set (tw l i b) (d.getD v 0 + sLen l i b)).getD x.toNat 0 < INF := fun x hx => by
    obtain ⟨r1, r2, r3⟩ := q.rng x hx
    have := hle x.toNat
    exact ⟨r1, r2, by omega⟩
  have hvf' : (d.set (tw l i b) (d.getD v 0 + sLen l i b)).getD v 0 < INF := by have := hle v; omega
  have hconv : ∀ T' : List Int, (∀ x, x ∈ T → x ∈ T') → (tw l i b : Int) ∈ T' → ∀ j c, j < l.length → 0 < sRoom l f j c → (d.set (tw l i b) (d.getD v 0 + sLen l i b)).getD (fr l j c) 0 < INF → (d.set (tw l i b) (d.getD v 0 + sLen l i b)).getD (tw l j c) 0 ≤ (d.set (tw l i b) (d.getD v 0 + sLen l i b)).getD (fr l j c) 0 + sLen l j c ∨ (fr l j c : Int) ∈ T' ∨ (fr l j c = v ∧ ¬ (R j c ∨ (j = i ∧ c = b))) := fun T' hT hy j c hj hrj hu => by
    by_cases ey : fr l j c = tw l i b
    · exact .inr (.inl (by rw [ey]; exact hy))
    · have h1 : (d.set (tw l i b) (d.getD v 0 + sLen l i b)).getD (fr l j c) 0 = d.getD (fr l j c) 0 := by rw [hset, if_neg ey]
      rw [h1] at hu ⊢
      have h2 := hle (tw l j c)
      rcases q.conv j c hj hrj hu with e | e | ⟨c1, c2⟩
      · exact .inl (by omega)
      · exact .inr (.inl (hT _ e))
      · by_cases c3 : j = i ∧ c = b
        · obtain ⟨rfl, rfl⟩ := c3
          exact .inl (by rw [hset, if_pos rfl, c1]; exact Int.le_refl _)
        · exact .inr (.inr ⟨c1, fun h => h.elim c2 c3⟩)
  refine ⟨fun hw => ?_, fun hw => ?_⟩
  · exact ⟨hrel.2, q.wl, q.nod, q.mem, hrng, q.cnt, q.vn, hvf', hconv T (fun _ h => h) ((q.mem _ e4).1 hw)⟩
  · have hnm : (tw l i b : Int) ∉ T := fun h => by
      have := (q.mem _ e4).2 h
      rw [hw] at this; cases this
    have hcnt := unseen_set q.wl (y := tw l i b) e4 hw
    have hc := q.cnt
    refine ⟨hrel.2, by rw [List.length_set]; exact q.wl, ?_, fun x hx => ?_, fun x hx => ?_, by rw [hcnt, List.length_append, List.length_singleton]; omega, q.vn, hvf', hconv _ (fun _ h => List.mem_append.2 (.inl h)) (List.mem_append.2 (.inr (List.mem_singleton.2 rfl)))⟩
    · rw [List.nodup_append]
      refine ⟨q.nod, by simp, fun x hx y hy => ?_⟩
      rw [List.mem_singleton] at hy
      rw [hy]
      exact fun e => hnm (by rw [← e]; exact hx)
    · rw [getD_set _ _ _ _ _ (by rw [q.wl]; exact e4), List.mem_append, List.mem_singleton]
      by_cases e : x = tw l i b
      · rw [if_pos e]; exact ⟨fun _ => .inr (by rw [e]), fun _ => rfl⟩
      · rw [if_neg e, q.mem x hx]
        exact ⟨fun h => .inl h, fun h => h.resolve_right (by omega)⟩
    · rcases List.mem_append.1 hx with h | h
      · exact hrng x h
      · rw [List.mem_singleton.1 h]
        refine ⟨by omega, by omega, ?_⟩
        rw [Int.toNat_natCast, hset, if_pos rfl]
        omega

/-- the sum of the labels, above what they can fall to -/
def sumD (n : Int) (d : List Int) : Int := sumTo n.toNat (fun x => d.getD x 0 + 4000000000)

theorem sumD_nonneg {d : List Int} (hp : Pot n l f S P) (a : Lab n l f S P d) : 0 ≤ sumD n d := sumTo_nonneg (fun x hx => by
  have h0 := hp.bound 0 hp.zero
  rcases Int.lt_or_le (d.getD x 0) INF with h | h
  · obtain ⟨h1, h2⟩ := a.lo x hx h
    have h3 := hp.bound x h1
    omega
  · unfold INF at h; omega)

theorem sumD_set {d : List Int} (hl : d.length = n.toNat) {y : Nat} (hy : y < n.toNat) (v : Int) : sumD n (d.set y v) = sumD n d - d.getD y 0 + v := by
  have h3 := sumTo_one (n := n.toNat) (fun i => v - d.getD i 0) y hy
  have h2 : sumD n (d.set y v) = sumTo n.toNat (fun i => (d.getD i 0 + 4000000000) + (if i = y then v - d.getD i 0 else 0)) :=
    sumTo_congr (fun i hi => by
      rw [getD_set _ _ _ _ _ (by omega)]
      by_cases c : i = y
      · rw [if_pos c, if_pos c]; omega
      · rw [if_neg c, if_neg c]; omega)
  rw [h2, sumTo_add, h3]
  show sumD n d + _ = _
  omega

/-! rounds over all arcs -/
structure Pass (n : Int) (l : List Arc) (f : List Int) (S : Nat → Bool) (P : Nat → Int) (F d0 : List Int) (R : Nat → Bool → Prop) (d : List Int) (more : Bool) : Prop where
  lab : Lab n l f S P d
  over : Over n F d
  le : ∀ x, d.getD x 0 ≤ d0.getD x 0
  same : more = false → d = d0
  ok : more = false → ∀ j b, j < l.length → R j b → 0 < sRoom l f j b → d.getD (fr l j b) 0 < INF → d.getD (tw l j b) 0 ≤ d.getD (fr l j b) 0 + sLen l j b
  done : ∀ j b, j < l.length → R j b → 0 < sRoom l f j b → F.getD (fr l j b) 0 < INF → d0.getD (fr l j b) 0 ≤ F.getD (fr l j b) 0 → d.getD (tw l j b) 0 ≤ F.getD (fr l j b) 0 + sLen l j b

theorem Pass.mono {F d0 d : List Int} {R R' : Nat → Bool → Prop} {more : Bool} (p : Pass n l f S P F d0 R d more) (h : ∀ j b, j < l.length → R' j b → R j b) : Pass n l f S P F d0 R' d more :=
  { p with ok := fun hm j b hj hR => p.ok hm j b hj (h j b hj hR), done := fun j b hj hR => p.done j b hj (h j b hj hR) }

theorem Pass.skip {F d0 d : List Int} {R : Nat → Bool → Prop} {more : Bool} (p : Pass n l f S P F d0 R d more) {i : Nat} {b : Bool} (h : 0 < sRoom l f i b → d.getD (fr l i b) 0 < INF → d.getD (tw l i b) 0 ≤ d.getD (fr l i b) 0 + sLen l i b) : Pass n l f S P F d0 (fun j c => R j c ∨ (j = i ∧ c = b)) d more :=
  { p with
    ok := fun hm j c hj hR hr hu => by
      rcases hR with hR | ⟨rfl, rfl⟩
      · exact p.ok hm j c hj hR hr hu
      · exact h hr hu
    done := fun j c hj hR hr hu h0 => by
      rcases hR with hR | ⟨rfl, rfl⟩
      · exact p.done j c hj hR hr hu h0
      · have h1 := p.le (fr l j c)
        have := h hr (by omega)
        omega }

theorem Pass.relax (hn : NetOk n l) (hp : Pot n l f S P) {F d0 d : List Int} (cF : Conv l f F) {R : Nat → Bool → Prop} {more : Bool} (p : Pass n l f S P F d0 R d more) {i : Nat} {b : Bool} (hi : i < l.length) (hr : 0 < sRoom l f i b) (hu : d.getD (fr l i b) 0 < INF) (hlt : d.getD (fr l i b) 0 + sLen l i b < d.getD (tw l i b) 0) : Pass n l f S P F d0 (fun j c => R j c ∨ (j = i ∧ c = b)) (d.set (tw l i b) (d.getD (fr l i b) 0 + sLen l i b)) true := by
  obtain ⟨e1, e2, e3, e4, e5, _⟩ := ends_ok hn hi b
  have hrel := (p.lab.relax hn hp hi hr hu hlt).2
  have hov := rel_over hn cF p.lab p.over b hi
  have er : rel l f d i b = d.set (tw l i b) (d.getD (fr l i b) 0 + sLen l i b) := by unfold rel; rw [if_pos ⟨hr, hu, hlt⟩]
  rw [er] at hov
  have hset : ∀ x : Nat, (d.set (tw l i b) (d.getD (fr l i b) 0 + sLen l i b)).getD x 0 = if x = tw l i b then d.getD (fr l i b) 0 + sLen l i b else d.getD x 0 := fun x => getD_set _ _ _ _ _ (by rw [p.lab.len]; exact e4)
  have hle : ∀ x : Nat, (d.set (tw l i b) (d.getD (fr l i b) 0 + sLen l i b)).getD x 0 ≤ d.getD x 0 := fun x => by
    rw [hset]; split
    · rename_i e; rw [e]; omega
    · exact Int.le_refl _
  refine ⟨hrel, hov, fun x => Int.le_trans (hle x) (p.le x), fun h => (by cases h), fun h => (by cases h), fun j c hj hR hrj huj h0 => ?_⟩
  rcases hR with hR | ⟨rfl, rfl⟩
  · exact Int.le_trans (hle _) (p.done j c hj hR hrj huj h0)
  · rw [hset, if_pos rfl]
    have := p.le (fr l j c)
    omega

def Near (n : Int) (P : Nat → Int) (F : List Int) (r : Int) (d : List Int) : Prop := ∀ x, x < n.toNat → F.getD x 0 < INF → rank n P F x ≤ r → d.getD x 0 ≤ F.getD x 0

theorem near_start (hn : NetOk n l) (hp : Pot n l f S P) {F d : List Int} (aF : Fin n l f S P F) (a : Lab n l f S P d) : Near n P F 0 d := fun x hx hf hr => by
  by_cases h0 : x = 0
  · subst h0; rw [a.zero, aF.zero]; exact Int.le_refl _
  · obtain ⟨i, b, t⟩ := aF.tight hx h0 hf
    have h1 := tight_rank hn hp aF.toLab t
    have h2 := (rank_bound n P F (fr l i b) (ends_ok hn t.1 b).2.2.1).1
    omega

theorem Pass.near (hn : NetOk n l) (hp : Pot n l f S P) {F d0 d : List Int} (aF : Fin n l f S P F) {R : Nat → Bool → Prop} {more : Bool} (p : Pass n l f S P F d0 R d more) (hR : ∀ j b, j < l.length → R j b) {r : Int} (h : Near n P F r d0) : Near n P F (r + 1) d := fun x hx hf hr => by
  by_cases h0 : x = 0
  · subst h0; rw [p.lab.zero, aF.zero]; exact Int.le_refl _
  · obtain ⟨i, b, t⟩ := aF.tight hx h0 hf
    have h1 := tight_rank hn hp aF.toLab t
    obtain ⟨t1, t2, t3, t4, t5⟩ := t
    have h2 := h (fr l i b) (ends_ok hn t1 b).2.2.1 t4 (by omega)
    have h3 := p.done i b t1 (hR i b t1) t3 t4 h2
    rw [t2] at h3
    omega

theorem Pass.stop (hn : NetOk n l) (hp : Pot n l f S P) {F d0 d : List Int} (aF : Fin n l f S P F) {R : Nat → Bool → Prop} (p : Pass n l f S P F d0 R d false) (hR : ∀ j b, j < l.length → R j b) : d = F :=
  Fin.unique hn hp { p.lab with conv := fun i b hi hr hu => p.ok rfl i b hi (hR i b hi) hr hu } aF

theorem near_all (hn : NetOk n l) (hp : Pot n l f S P) {F d : List Int} (aF : Fin n l f S P F) (a : Lab n l f S P d) (o : Over n F d) {r : Int} (hr : n ≤ r) (h : Near n P F r d) : d = F := over_fin hn hp aF a o (fun x hx hf => h x hx hf (by
  have := rank_bound n P F x hx
  omega))

theorem over_start {F d : List Int} (aF : Lab n l f S P F) (h0 : d.getD 0 0 = 0) (h1 : ∀ x, 0 < x → x < n.toNat → d.getD x 0 = INF) : Over n F d := fun x hx => by
  by_cases c : x = 0
  · subst c; rw [h0, aF.zero]; exact Int.le_refl _
  · rw [h1 x (by omega) hx]; exact aF.hi x hx

/-! the first tight step -/
noncomputable def tb (l : List Arc) (f d : List Int) (v : Nat) (s : Nat × Bool) : Bool := boolP (Tight l f d v s.1 s.2)
noncomputable def ft (l : List Arc) (f d : List Int) (v : Nat) : Nat → Option (Nat × Bool)
  | 0 => none
  | m + 1 => match ft l f d v m with
    | some s => some s
    | none => if tb l f d v (m, false) = true then some (m, false) else if tb l f d v (m, true) = true then some (m, true) else none

theorem ft_mono {d : List Int} {v m M : Nat} {s : Nat × Bool} (h : ft l f d v m = some s) (hm : m ≤ M) : ft l f d v M = some s := by
  induction M with
  | zero => obtain rfl : m = 0 := by omega
            exact h
  | succ M ih =>
    by_cases e : m = M + 1
    · rw [← e]; exact h
    · rw [ft, ih (by omega)]

theorem ft_none {d : List Int} {v m : Nat} (h : ft l f d v m = none) : ∀ i b, i < m → ¬ Tight l f d v i b := by
  induction m with
  | zero => intro i b hi; omega
  | succ m ih =>
    intro i b hi ht
    rw [ft] at h
    cases e : ft l f d v m with
    | some s => rw [e] at h; cases h
    | none =>
      rw [e] at h
      simp only at h
      by_cases e2 : i = m
      · subst e2
        by_cases c1 : tb l f d v (i, false) = true
        · rw [if_pos c1] at h; cases h
        · rw [if_neg c1] at h
          by_cases c2 : tb l f d v (i, true) = true
          · rw [if_pos c2] at h; cases h
          · cases b
            · exact c1 (boolP_true ht)
            · exact c2 (boolP_true ht)
      · exact ih e i b (by omega) ht

theorem ft_some {d : List Int} {v m : Nat} {s : Nat × Bool} (h : ft l f d v m = some s) : Tight l f d v s.1 s.2 := by
  induction m with
  | zero => cases h
  | succ m ih =>
    rw [ft] at h
    cases e : ft l f d v m with
    | some t => rw [e] at h; simp only at h; rw [h] at e; exact ih e
    | none =>
      rw [e] at h
      simp only at h
      by_cases c1 : tb l f d v (m, false) = true
      · rw [if_pos c1] at h; cases h; exact boolP_iff.1 c1
      · rw [if_neg c1] at h
        by_cases c2 : tb l f d v (m, true) = true
        · rw [if_pos c2] at h; cases h; exact boolP_iff.1 c2
        · rw [if_neg c2] at h; cases h

/-- the first tight step into a node -/
def ByT (l : List Arc) (f d : List Int) (v : Int) (i : Nat) (b : Bool) : Prop := 0 ≤ v ∧ ft l f d v.toNat l.length = some (i, b)

theorem byT_exists {d : List Int} (a : Fin n l f S P d) {x : Nat} (hx : x < n.toNat) (h0 : x ≠ 0) (hf : d.getD x 0 < INF) : ∃ i b, ByT l f d x i b ∧ Tight l f d x i b := by
  obtain ⟨i, b, t⟩ := a.tight hx h0 hf
  cases e : ft l f d x l.length with
  | none => exact absurd t (ft_none e i b t.1)
  | some s => exact ⟨s.1, s.2, ⟨by omega, by rw [Int.toNat_natCast]; exact e⟩, ft_some e⟩

theorem follow_tight {d : List Int} (p : List (Nat × Bool)) : ∀ v, Follow l (ByT l f d) p v → ∀ s, s ∈ p → ∃ x, Tight l f d x s.1 s.2 := by
  induction p with
  | nil => intro v _ s hs; cases hs
  | cons t p ih =>
    intro v hf s hs
    obtain ⟨i, b⟩ := t
    obtain ⟨h0, hb, h2⟩ := hf
    rcases List.mem_cons.1 hs with e | e
    · rw [e]; exact ⟨_, ft_some hb.2⟩
    · exact ih _ h2 s e
end
end Go.Proofs.Ytgkpgigoonhgdaa.MSpfa

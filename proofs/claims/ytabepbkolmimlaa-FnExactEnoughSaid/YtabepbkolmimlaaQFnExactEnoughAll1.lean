/- What the functions that the law FnExactEnough reaches compute: StepsFromI, FreeAtI, HomeOfS, HomeOfI, FreeCellsS, FreeCellsI. -/
import Derived.Test.YtabepbkolmimlaaPFnExactEnoughx
import Derived.Test.YtabepbkolmimlaaMBase
import Derived.Test.YtabepbkolmimlaaMGrid
import Derived.Test.YtabepbkolmimlaaMLists
import Derived.Test.YtabepbkolmimlaaMSteps
import Derived.Test.YtabepbkolmimlaaMScan
import Derived.Test.YtabepbkolmimlaaQFnExactEnoughAll0
namespace Go.Proofs.Ytabepbkolmimlaa.QFnExactEnough
open Go.RowKit Go.Proofs.Ytabepbkolmimlaa.PFnExactEnough Go.Proofs.YtabepbkolmimlaaW.PrintWords Go.Proofs.YtabepbkolmimlaaW.PrintLast Go.Proofs.YtabepbkolmimlaaW.PrintMore Go.Proofs.Ytabepbkolmimlaa.MBase Go.Proofs.Ytabepbkolmimlaa.MGrid Go.Proofs.Ytabepbkolmimlaa.MLists Go.Proofs.Ytabepbkolmimlaa.MSteps Go.Proofs.Ytabepbkolmimlaa.MScan
set_option linter.unusedVariables false
set_option linter.unusedSimpArgs false

/-! impl.StepsFrom -/
section
variable {w h : Int} {c : ByteArray} {S : Int → Prop}
theorem ii_l2 (g : gridOk w h c = true) (i : Nat)
    (next : ∀ d Q, Que c.size (around w h c) S (i + 1) d Q → ∃ r, Ev (fun k => impl_StepsFrom.l1 k d Q ((i + 1 : Nat) : Int) w h c) r ∧ Lab c.size (around w h c) S r) (x : Int) (hx : Cell c.size x) (m : Nat) :
    ∀ (j : Nat) (d Q : List Int), j + m = (around w h c x).length → i < Q.length → Q.getD i 0 = x → Que c.size (around w h c) S i d Q → Seen (around w h c) i j d Q →
      ∃ r, Ev (fun k => impl_StepsFrom.l2 k d Q i (around w h c x) ((around w h c x).length : Int) j w h c) r ∧ Lab c.size (around w h c) S r := by
  have hA : ∀ x, Cell c.size x → ∀ y, y ∈ around w h c x → Cell c.size y := fun x _ y hy => around_cell hy
  have hc := (gridOk_size g).2
  have hlen := around_len w h c x
  have x0 := hx.1
  have x1 := hx.2
  induction m with
  | zero =>
    intro j d Q hj hi hQ q hs
    have hlq := q.len_le
    have hw1 : wrap64 ((i : Int) + 1) = ((i + 1 : Nat) : Int) := by rw [w64 (by omega) (by omega)]; omega
    obtain ⟨r, hr, hl⟩ := next d Q (q.next hA hi hs (by rw [hQ]; omega))
    exact ⟨r, Ev.step (fun k => by rw [impl_StepsFrom.l2, if_neg (by omega), hw1]) hr, hl⟩
  | succ m ih =>
    intro j d Q hj hi hQ q hs
    have hlq := q.len_le
    have hjl : j < (around w h c x).length := by omega
    have hyA := getD_mem hjl
    have hy := around_cell hyA
    have hd := q.len
    have hw3 : wrap64 ((j : Int) + 1) = ((j + 1 : Nat) : Int) := by rw [w64 (by omega) (by omega)]; omega
    have y0 := hy.1
    have y1 := hy.2
    have hin := q.inQ i hi
    rw [hQ] at hin
    have hsm := q.toBase.small x hx
    have hw2 : wrap64 (rd d x + 1) = rd d x + 1 := w64 (by omega) (by omega)
    by_cases hb : rd d ((around w h c x).getD j 0) < 0
    · have q' := q.put hA hi (y := (around w h c x).getD j 0) (by rw [hQ]; exact hyA) hb
      rw [hQ] at q'
      have hQ' : (Q ++ [(around w h c x).getD j 0]).getD i 0 = x := by rw [getD_push, if_pos hi]; exact hQ
      have hs' : Seen (around w h c) i (j + 1) (d.set ((around w h c x).getD j 0).toNat (rd d x + 1)) (Q ++ [(around w h c x).getD j 0]) := by
        intro z hz
        rw [hQ'] at hz
        rcases take_succ_mem hjl hz with h1 | h1
        · have h2 := hs z (by rw [hQ]; exact h1)
          rw [q.toBase.keep hy hb (around_cell (List.mem_of_mem_take h1)) h2]; exact h2
        · rw [h1, rd_set q.len hy hy, if_pos rfl]; omega
      obtain ⟨r, hr, hl⟩ := ih (j + 1) _ _ (by omega) (by simp; omega) hQ' q' hs'
      exact ⟨r, Ev.step (fun k => by rw [impl_StepsFrom.l2, if_pos (by omega), if_pos (by omega), if_pos (by omega), rdN, if_pos y0, if_pos (by rw [hd]; exact y1), if_pos hb, if_pos (by omega), if_pos (by omega), rdN Q i, hQ, if_pos x0, if_pos (by rw [hd]; exact x1), if_pos (by omega), hw2, hw3]) hr, hl⟩
    · have hs' : Seen (around w h c) i (j + 1) d Q := by
        intro z hz
        rw [hQ] at hz
        rcases take_succ_mem hjl hz with h1 | h1
        · exact hs z (by rw [hQ]; exact h1)
        · rw [h1]; omega
      obtain ⟨r, hr, hl⟩ := ih (j + 1) d Q (by omega) hi hQ q hs'
      exact ⟨r, Ev.step (fun k => by rw [impl_StepsFrom.l2, if_pos (by omega), if_pos (by omega), if_pos (by omega), rdN, if_pos y0, if_pos (by rw [hd]; exact y1), if_neg hb, hw3]) hr, hl⟩

theorem ii_l1 (g : gridOk w h c = true) (m : Nat) : ∀ (i : Nat) (d Q : List Int), i + m = c.size → Que c.size (around w h c) S i d Q → ∃ r, Ev (fun k => impl_StepsFrom.l1 k d Q i w h c) r ∧ Lab c.size (around w h c) S r := by
  have hc := (gridOk_size g).2
  induction m with
  | zero =>
    intro i d Q hi q
    have hlq := q.len_le
    exact ⟨d, Ev.step (f := fun _ => some d) (fun k => by rw [impl_StepsFrom.l1, if_neg (by omega)]) (Ev.now _), q.lab (by omega)⟩
  | succ m ih =>
    intro i d Q hi q
    by_cases hq : i < Q.length
    · have hx := (q.inQ i hq).1
      have x0 := hx.1
      have x1 := hx.2
      obtain ⟨r, hr, hl⟩ := ii_l2 g i (fun d' Q' q' => ih (i + 1) d' Q' (by omega) q') (Q.getD i 0) hx (around w h c (Q.getD i 0)).length 0 d Q (Nat.zero_add _) hq rfl q (fun y hy => by simp at hy)
      exact ⟨r, Ev.step (fun k => by rw [impl_StepsFrom.l1, if_pos (by omega), if_pos (by omega), rdN]) (Ev.bind (iaround_any g (Q.getD i 0) (by omega) (by omega)) hr), hl⟩
    · exact ⟨d, Ev.step (f := fun _ => some d) (fun k => by rw [impl_StepsFrom.l1, if_neg (by omega)]) (Ev.now _), q.lab (by omega)⟩

/-- the sources are laid into the queue -/
structure Src (n : Nat) (l : List Int) (i : Nat) (d Q : List Int) : Prop where
  len : d.length = n
  two : ∀ z, Cell n z → rd d z = 0 ∨ rd d z = -1
  src : ∀ z, Cell n z → (rd d z = 0 ↔ z ∈ l.take i)
  inQ : ∀ a : Nat, a < Q.length → Cell n (Q.getD a 0) ∧ rd d (Q.getD a 0) = 0
  all : ∀ z, Cell n z → rd d z = 0 → ∃ a : Nat, a < Q.length ∧ Q.getD a 0 = z
  room : bare n d + Q.length ≤ n

theorem Src.que {n : Nat} {A : Int → List Int} {l : List Int} {i : Nat} {d Q : List Int} (s : Src n l i d Q) (hi : l.length ≤ i) : Que n A (fun z => z ∈ l) 0 d Q where
  len := s.len
  lo := fun z hz => by rcases s.two z hz with h | h <;> omega
  src := fun z hz => by have := s.src z hz; rwa [List.take_of_length_le hi] at this
  pred := fun z hz h => by rcases s.two z hz with h | h <;> omega
  inQ := fun a ha => ⟨(s.inQ a ha).1, by rw [(s.inQ a ha).2]; exact Int.le_refl _⟩
  all := fun z hz h => s.all z hz (by rcases s.two z hz with h | h <;> omega)
  mono := fun a b hab hb => by rw [(s.inQ a (by omega)).2, (s.inQ b hb).2]; exact Int.le_refl _
  done := fun a ha => by omega
  room := s.room
  near := fun h0 b hb => by rw [(s.inQ b hb).2, (s.inQ 0 h0).2]; omega

theorem mem_take_succ {l : List Int} {i : Nat} (hi : i < l.length) (z : Int) : z ∈ l.take (i + 1) ↔ z ∈ l.take i ∨ z = l.getD i 0 := by
  rw [List.take_add_one, List.getElem?_eq_getElem hi, List.mem_append, List.getD_eq_getElem?_getD, List.getElem?_eq_getElem hi]
  simp

theorem Src.put {n : Nat} {l : List Int} {i : Nat} {d Q : List Int} (s : Src n l i d Q) (hi : i < l.length) (hy : Cell n (l.getD i 0)) (hb : rd d (l.getD i 0) < 0) : Src n l (i + 1) (d.set (l.getD i 0).toNat 0) (Q ++ [l.getD i 0]) := by
  have hmem := fun z => mem_take_succ hi z
  generalize l.getD i 0 = y at *
  have hr := fun z hz => rd_set s.len (x := z) hz hy 0
  have gl : ∀ a : Nat, a < Q.length → (Q ++ [y]).getD a 0 = Q.getD a 0 := fun a ha => by rw [getD_push, if_pos ha]
  have ge : (Q ++ [y]).getD Q.length 0 = y := by rw [getD_push, if_neg (by omega), if_pos rfl]
  have hl : (Q ++ [y]).length = Q.length + 1 := by simp
  have hbare := bare_set s.len hy hb (v := 0) (by omega)
  have hroom := s.room
  refine ⟨by rw [List.length_set]; exact s.len, ?_, ?_, ?_, ?_, by omega⟩
  · intro z hz; rw [hr z hz]; split
    · exact .inl rfl
    · exact s.two z hz
  · intro z hz; rw [hr z hz, hmem]; split
    · rename_i e; exact ⟨fun _ => .inr e, fun _ => rfl⟩
    · rename_i e
      rw [s.src z hz]
      exact ⟨fun a => .inl a, fun a => a.resolve_right e⟩
  · intro a ha
    by_cases h1 : a < Q.length
    · rw [gl a h1]
      have := s.inQ a h1
      refine ⟨this.1, ?_⟩
      rw [hr _ this.1]; split
      · rfl
      · exact this.2
    · rw [show a = Q.length by omega, ge]
      exact ⟨hy, by rw [hr y hy, if_pos rfl]⟩
  · intro z hz h0
    by_cases e : z = y
    · exact ⟨Q.length, by omega, by rw [ge, e]⟩
    · rw [hr z hz, if_neg e] at h0
      obtain ⟨a, ha, ea⟩ := s.all z hz h0
      exact ⟨a, by omega, by rw [gl a ha]; exact ea⟩

theorem Src.skip {n : Nat} {l : List Int} {i : Nat} {d Q : List Int} (s : Src n l i d Q) (hi : i < l.length) (hy : Cell n (l.getD i 0)) (hb : ¬ rd d (l.getD i 0) < 0) : Src n l (i + 1) d Q := by
  refine { s with src := ?_ }
  intro z hz
  rw [mem_take_succ hi, s.src z hz]
  refine ⟨fun a => .inl a, fun a => a.elim id (fun e => ?_)⟩
  rw [e]
  rcases s.two _ hy with h1 | h1
  · exact (s.src _ hy).1 h1
  · omega

theorem ii_l0 (g : gridOk w h c = true) (l : List Int) (hl : l.length ≤ 1048576) (hall : ∀ z, z ∈ l → freeAt w h c z = true) (m : Nat) : ∀ (i : Nat) (d Q : List Int), i + m = l.length → Src c.size l i d Q → ∃ r, Ev (fun k => impl_StepsFrom.l0 k d Q l (l.length : Int) i w h c) r ∧ Lab c.size (around w h c) (fun z => z ∈ l) r := by
  have hc := (gridOk_size g).2
  induction m with
  | zero =>
    intro i d Q hi s
    obtain ⟨r, hr, hlab⟩ := ii_l1 g c.size 0 d Q (Nat.zero_add _) (s.que (by omega))
    exact ⟨r, Ev.step (fun k => by rw [impl_StepsFrom.l0, if_neg (by omega)]; rfl) hr, hlab⟩
  | succ m ih =>
    intro i d Q hi s
    have hil : i < l.length := by omega
    have hf := freeAt_iff.mp (hall _ (getD_mem hil))
    have hy : Cell c.size (l.getD i 0) := ⟨hf.2.1, hf.2.2.1⟩
    have y0 := hy.1
    have y1 := hy.2
    have hd := s.len
    have hb0 := bare_nonneg c.size d
    have hroom := s.room
    have hw3 : wrap64 ((i : Int) + 1) = ((i + 1 : Nat) : Int) := by rw [w64 (by omega) (by omega)]; omega
    by_cases hb : rd d (l.getD i 0) < 0
    · obtain ⟨r, hr, hlab⟩ := ih (i + 1) _ _ (by omega) (s.put hil hy hb)
      exact ⟨r, Ev.step (fun k => by rw [impl_StepsFrom.l0, if_pos (by omega), if_pos (by omega), if_pos (by omega), rdN, if_pos y0, if_pos (by rw [hd]; exact y1), if_pos hb, if_pos (by omega), hw3]) hr, hlab⟩
    · obtain ⟨r, hr, hlab⟩ := ih (i + 1) d Q (by omega) (s.skip hil hy hb)
      exact ⟨r, Ev.step (fun k => by rw [impl_StepsFrom.l0, if_pos (by omega), if_pos (by omega), if_pos (by omega), rdN, if_pos y0, if_pos (by rw [hd]; exact y1), if_neg hb, hw3]) hr, hlab⟩
end

theorem ii_free {w h : Int} {c : ByteArray} (g : gridOk w h c = true) (l : List Int) (hl : l.length ≤ 1048576) (m : Nat) : ∀ i : Nat, i + m = l.length → ((∀ z, z ∈ l.drop i → freeAt w h c z = true) → Ev (fun k => slices_ContainsFunc_int_int.l0 k (l.length : Int) i l w h c) false) ∧ ((¬ ∀ z, z ∈ l.drop i → freeAt w h c z = true) → Ev (fun k => slices_ContainsFunc_int_int.l0 k (l.length : Int) i l w h c) true) := by
  induction m with
  | zero =>
    intro i hi
    have e : l.drop i = [] := List.drop_eq_nil_of_le (by omega)
    rw [e]
    refine ⟨fun _ => Ev.step (f := fun _ => some false) (fun k => by rw [slices_ContainsFunc_int_int.l0, if_neg (by omega)]) (Ev.now _), fun hn => absurd (fun z hz => by cases hz) hn⟩
  | succ m ih =>
    intro i hi
    have hw3 : wrap64 ((i : Int) + 1) = ((i + 1 : Nat) : Int) := by rw [w64 (by omega) (by omega)]; omega
    rw [drop_cons l i 0 (by omega)]
    have ih' := ih (i + 1) (by omega)
    cases hq : freeAt w h c (l.getD i 0) with
    | true =>
      refine ⟨fun hall => ?_, fun hn => ?_⟩
      · exact Ev.step (fun k => by rw [slices_ContainsFunc_int_int.l0, if_pos (by omega), if_pos (by omega), if_pos (by omega), isFree_eq g, rdN, hq, Option.bind_some, if_pos rfl, hw3]) (ih'.1 (fun z hz => hall z (List.mem_cons_of_mem _ hz)))
      · exact Ev.step (fun k => by rw [slices_ContainsFunc_int_int.l0, if_pos (by omega), if_pos (by omega), if_pos (by omega), isFree_eq g, rdN, hq, Option.bind_some, if_pos rfl, hw3]) (ih'.2 (fun hh => hn (fun z hz => by
          rcases List.mem_cons.1 hz with e | e
          · rw [e]; exact hq
          · exact hh z e)))
    | false =>
      refine ⟨fun hall => ?_, fun hn => ?_⟩
      · have := hall _ (List.mem_cons_self ..)
        rw [hq] at this; cases this
      · exact Ev.step (f := fun _ => some true) (fun k => by rw [slices_ContainsFunc_int_int.l0, if_pos (by omega), if_pos (by omega), if_pos (by omega), isFree_eq g, rdN, hq, Option.bind_some, if_neg (by simp)]) (Ev.now _)

theorem ii_rep (x1 : Nat) (v : Int) (hx : x1 ≤ 64) (m : Nat) : ∀ i : Nat, i + m = x1 → Ev (fun k => slices_Repeat_int_int.l0 k x1 v (List.replicate i v) i) (List.replicate x1 v) := by
  induction m with
  | zero =>
    intro i hi
    obtain rfl : i = x1 := by omega
    exact Ev.step (f := fun _ => some (List.replicate i v)) (fun k => by rw [slices_Repeat_int_int.l0, if_neg (by omega)]) (Ev.now _)
  | succ m ih =>
    intro i hi
    have hw3 : wrap64 ((i : Int) + 1) = ((i + 1 : Nat) : Int) := by rw [w64 (by omega) (by omega)]; omega
    exact Ev.step (fun k => by rw [slices_Repeat_int_int.l0, if_pos (by omega), if_pos (by rw [List.length_replicate]; omega), hw3, ← List.replicate_succ']) (ih (i + 1) (by omega))

theorem iRepeat (v : Int) (n : Nat) (hn : n ≤ 64) : Ev (fun k => slices_Repeat_int_int.f k [v] n) (List.replicate n v) := by
  have e : wrap64 (wrap64 ((([v] : List Int).length : Int) + (([v] : List Int).length : Int)) - 2) = 0 := by rw [List.length_singleton]; unfold wrap64; omega
  refine Ev.congr (fun k => by unfold slices_Repeat_int_int.f; rw [e, if_pos (by omega), if_pos (by simp)]; rfl) (ii_rep n v hn n 0 (Nat.zero_add _))

theorem src_start (n : Nat) (l : List Int) : Src n l 0 (List.replicate n (-1)) [] := by
  have hr : ∀ z, Cell n z → rd (List.replicate n (-1)) z = -1 := fun z hz => by
    have := hz.1; have := hz.2
    unfold rd
    rw [List.getD_eq_getElem?_getD, List.getElem?_replicate, if_pos (by omega)]
    rfl
  refine ⟨by simp, fun z hz => .inr (hr z hz), fun z hz => by rw [hr z hz]; simp, fun a ha => by simp at ha, fun z hz h => by rw [hr z hz] at h; omega, ?_⟩
  have := bare_le n (List.replicate n (-1))
  simp only [List.length_nil]
  omega

theorem iStepsFrom (w h : Int) (c : ByteArray) (l : List Int) (hl : l.length ≤ 1048576) : ∃ r, Ev (fun k => impl_StepsFrom.f k w h c l) r ∧ Answer w h c l r := by
  have hg := iGridOk w h c
  have bad : Ev (fun k => impl_StepsFrom.j0 k l true w h c) [] := Ev.step (f := fun _ => some []) (fun k => by rw [impl_StepsFrom.j0, if_pos rfl]) (Ev.now _)
  cases g : gridOk w h c with
  | false =>
    rw [g] at hg
    exact ⟨[], Ev.bind hg (Ev.congr (fun k => by rw [if_neg (by simp)]) bad), .inr ⟨fun hh => absurd (hh.1.symm.trans g) (by simp), rfl⟩⟩
  | true =>
    rw [g] at hg
    have hc := (gridOk_size g).2
    have h0 := ii_free g l hl l.length 0 (Nat.zero_add _)
    rw [List.drop_zero, show ((0 : Nat) : Int) = 0 from rfl] at h0
    have hF : (∀ z, z ∈ l → freeAt w h c z = true) → Ev (fun k => slices_ContainsFunc_int_int.f k l w h c) false := h0.1
    have hT : (¬ ∀ z, z ∈ l → freeAt w h c z = true) → Ev (fun k => slices_ContainsFunc_int_int.f k l w h c) true := h0.2
    by_cases hall : ∀ z, z ∈ l → freeAt w h c z = true
    · obtain ⟨r, hr, hlab⟩ := ii_l0 g l hl hall l.length 0 _ _ (Nat.zero_add _) (src_start c.size l)
      refine ⟨r, Ev.bind hg (Ev.congr (fun k => by rw [if_pos rfl]) (Ev.bind (hF hall) ?_)), .inl ⟨g, hall, hlab⟩⟩
      exact Ev.step (fun k => by rw [impl_StepsFrom.j0, if_neg (by simp)]) (Ev.bind (iRepeat (-1) c.size hc) hr)
    · exact ⟨[], Ev.bind hg (Ev.congr (fun k => by rw [if_pos rfl]) (Ev.bind (hT hall) bad)), .inr ⟨fun hh => hall hh.2, rfl⟩⟩

/-! impl.FreeAt -/
theorem iFreeAt (w h : Int) (c : ByteArray) (x : Int) : Ev (fun k => impl_FreeAt.f k w h c x) (freeAt w h c x) := by
  refine Ev.bind (iGridOk w h c) ?_
  cases hg : gridOk w h c with
  | false => simp only [Bool.false_eq_true, if_false, freeAt, hg, Bool.false_and]; exact Ev.now _
  | true => simp only [if_true, isFree_eq hg, Option.bind_some]; exact Ev.now _

/-! spec.HomeOf -/
/-- the first cell that a free cell reaches; -1 for what is no free cell -/
def HomeIs (w h : Int) (c : ByteArray) (a v : Int) : Prop :=
  (freeAt w h c a = false ∧ v = -1) ∨ (freeAt w h c a = true ∧ ∃ r, Answer w h c [a] r ∧ 0 ≤ rd r v ∧ 0 ≤ v ∧ v ≤ a ∧ ∀ i, 0 ≤ i → i < v → rd r i < 0)

theorem HomeIs.unique {w h : Int} {c : ByteArray} {a v u : Int} (p : HomeIs w h c a v) (q : HomeIs w h c a u) : v = u := by
  rcases p with ⟨p1, p2⟩ | ⟨p1, r, p2, p3, p4, p5, p6⟩
  · rcases q with ⟨q1, q2⟩ | ⟨q1, _⟩
    · omega
    · rw [p1] at q1; cases q1
  · rcases q with ⟨q1, _⟩ | ⟨q1, s, q2, q3, q4, q5, q6⟩
    · rw [p1] at q1; cases q1
    · obtain rfl := p2.unique q2
      rcases Int.lt_or_le v u with h1 | h1
      · have := q6 v p4 h1; omega
      · rcases Int.lt_or_le u v with h2 | h2
        · have := p6 u q4 h2; omega
        · omega

/-- a free cell's own label is 0 -/
theorem answer_self {w h : Int} {c : ByteArray} {a : Int} {r : List Int} (ha : freeAt w h c a = true) (p : Answer w h c [a] r) : rd r a = 0 ∧ r.length = c.size ∧ 0 ≤ a ∧ a < c.size ∧ c.size ≤ 64 := by
  have f := freeAt_iff.mp ha
  rcases p with ⟨g, _, lab⟩ | ⟨e, _⟩
  · exact ⟨(lab.src a ⟨f.2.1, f.2.2.1⟩).2 (List.mem_singleton.2 rfl), lab.len, f.2.1, f.2.2.1, (gridOk_size g).2⟩
  · exact absurd ⟨f.1, fun z hz => by rw [List.mem_singleton.1 hz]; exact ha⟩ e

theorem sHome_l0 (a : Int) (r : List Int) (h0 : 0 ≤ a) (h1 : a < r.length) (hl : r.length ≤ 64) (ha : rd r a = 0) (m : Nat) : ∀ i : Nat, (i : Int) + m = a → (∀ j : Int, 0 ≤ j → j < i → rd r j < 0) → ∃ v, Ev (fun k => spec_HomeOf.l0 k a r i) v ∧ 0 ≤ rd r v ∧ 0 ≤ v ∧ v ≤ a ∧ ∀ j, 0 ≤ j → j < v → rd r j < 0 := by
  induction m with
  | zero =>
    intro i hi hb
    exact ⟨a, Ev.step (f := fun _ => some a) (fun k => by rw [spec_HomeOf.l0, if_neg (by omega)]) (Ev.now _), by omega, h0, Int.le_refl _, fun j a1 a2 => hb j a1 (by omega)⟩
  | succ m ih =>
    intro i hi hb
    by_cases hc : rd r (i : Int) ≥ 0
    · exact ⟨i, Ev.step (f := fun _ => some (i : Int)) (fun k => by rw [spec_HomeOf.l0, if_pos (by omega), if_pos (by omega), if_pos (by omega), if_pos hc]) (Ev.now _), hc, by omega, by omega, hb⟩
    · have hw3 : wrap64 ((i : Int) + 1) = ((i + 1 : Nat) : Int) := by rw [w64 (by omega) (by omega)]; omega
      obtain ⟨v, hv, hp⟩ := ih (i + 1) (by omega) (fun j a1 a2 => by
        by_cases e : j = i
        · rw [e]; omega
        · exact hb j a1 (by omega))
      exact ⟨v, Ev.step (fun k => by rw [spec_HomeOf.l0, if_pos (by omega), if_pos (by omega), if_pos (by omega), if_neg hc, hw3]) hv, hp⟩

theorem sHomeOf (w h : Int) (c : ByteArray) (a : Int) : ∃ v, Ev (fun k => spec_HomeOf.f k w h c a) v ∧ HomeIs w h c a v := by
  have fa := sFreeAt w h c a
  cases ha : freeAt w h c a with
  | false =>
    rw [ha] at fa
    exact ⟨-1, Ev.bind fa (Ev.of_eq fun k => by rw [if_neg (by simp)]), .inl ⟨ha, rfl⟩⟩
  | true =>
    rw [ha] at fa
    obtain ⟨r, hr, hA⟩ := sStepsFrom w h c [a] (by simp)
    obtain ⟨e1, e2, e3, e4, e5⟩ := answer_self ha hA
    obtain ⟨v, hv, hp⟩ := sHome_l0 a r e3 (by omega) (by omega) e1 a.toNat 0 (by omega) (fun j a1 a2 => by omega)
    exact ⟨v, Ev.bind fa (Ev.congr (fun k => by rw [if_pos rfl]) (Ev.bind hr hv)), .inr ⟨ha, r, hA, hp⟩⟩

/-! impl.HomeOf -/
theorem iHome_l0 (a : Int) (r : List Int) (h0 : 0 ≤ a) (h1 : a < r.length) (hl : r.length ≤ 64) (ha : rd r a = 0) (m : Nat) : ∀ i : Nat, (i : Int) + m = a → (∀ j : Int, 0 ≤ j → j < i → rd r j < 0) → ∃ v, Ev (fun k => slices_IndexFunc_int_int.l0 k (r.length : Int) i r) v ∧ 0 ≤ rd r v ∧ 0 ≤ v ∧ v ≤ a ∧ ∀ j, 0 ≤ j → j < v → rd r j < 0 := by
  induction m with
  | zero =>
    intro i hi hb
    have e : (i : Int) = a := by omega
    exact ⟨a, Ev.step (f := fun _ => some a) (fun k => by rw [slices_IndexFunc_int_int.l0, if_pos (by omega), if_pos (by omega), if_pos (by omega), if_neg (by rw [e]; omega), e]) (Ev.now _), by omega, h0, Int.le_refl _, fun j a1 a2 => hb j a1 (by omega)⟩
  | succ m ih =>
    intro i hi hb
    by_cases hc : rd r (i : Int) < 0
    · have hw3 : wrap64 ((i : Int) + 1) = ((i + 1 : Nat) : Int) := by rw [w64 (by omega) (by omega)]; omega
      obtain ⟨v, hv, hp⟩ := ih (i + 1) (by omega) (fun j a1 a2 => by
        by_cases e : j = i
        · rw [e]; omega
        · exact hb j a1 (by omega))
      exact ⟨v, Ev.step (fun k => by rw [slices_IndexFunc_int_int.l0, if_pos (by omega), if_pos (by omega), if_pos (by omega), if_pos hc, hw3]) hv, hp⟩
    · exact ⟨i, Ev.step (f := fun _ => some (i : Int)) (fun k => by rw [slices_IndexFunc_int_int.l0, if_pos (by omega), if_pos (by omega), if_pos (by omega), if_neg hc]) (Ev.now _), by omega, by omega, by omega, hb⟩

theorem iHomeOf (w h : Int) (c : ByteArray) (a : Int) : ∃ v, Ev (fun k => impl_HomeOf.f k w h c a) v ∧ HomeIs w h c a v := by
  have fa := iFreeAt w h c a
  cases ha : freeAt w h c a with
  | false =>
    rw [ha] at fa
    exact ⟨-1, Ev.bind fa (Ev.of_eq fun k => by rw [if_neg (by simp)]), .inl ⟨ha, rfl⟩⟩
  | true =>
    rw [ha] at fa
    obtain ⟨r, hr, hA⟩ := iStepsFrom w h c [a] (by simp)
    obtain ⟨e1, e2, e3, e4, e5⟩ := answer_self ha hA
    obtain ⟨v, hv, hp⟩ := iHome_l0 a r e3 (by omega) (by omega) e1 a.toNat 0 (by omega) (fun j a1 a2 => by omega)
    have hv2 : Ev (fun k => slices_IndexFunc_int_int.f k r) v := hv
    refine ⟨v, Ev.bind fa (Ev.congr (fun k => by rw [if_pos rfl]) (Ev.bind hr (Ev.bind hv2 ?_))), .inr ⟨ha, r, hA, hp⟩⟩
    exact Ev.of_eq fun k => rfl

/-! spec.FreeCells -/
theorem sFree_l0 {w h : Int} {c : ByteArray} (g : gridOk w h c = true) (d : Nat) : ∀ (i : Int) (acc : List Int), 0 ≤ i → i + d = c.size → acc.length + d ≤ 100 →
    Ev (fun k => spec_FreeCells.l0 k acc i w h c) (acc ++ freeList c d i) := by
  have hs := gridOk_size g
  induction d with
  | zero =>
    intro i acc h0 h1 h2
    rw [freeList, List.append_nil]
    exact Ev.step (fun k => by rw [spec_FreeCells.l0, if_neg (by omega)]) (Ev.step (f := fun _ => some acc) (fun k => by rw [spec_FreeCells.j1, if_neg (by simp)]) (Ev.now _))
  | succ d ih =>
    intro i acc h0 h1 h2
    have hw : wrap64 (i + 1) = i + 1 := w64 (by omega) (by omega)
    rw [freeList]
    refine Ev.step (fun k => by rw [spec_FreeCells.l0, if_pos (by omega), decide_eq_true (show i < 64 by omega)]) (Ev.step (fun k => by rw [spec_FreeCells.j1, if_pos rfl]) (Ev.bind (sFreeAt w h c i) ?_))
    rw [freeAt_in g h0 (by omega)]
    by_cases hb : bt c i ≠ 35
    · rw [if_pos hb, ← List.append_assoc, decide_eq_true hb]
      exact Ev.congr (fun k => by rw [if_pos rfl, if_pos (by omega), hw]) (ih (i + 1) (acc ++ [i]) (by omega) (by omega) (by simp; omega))
    · rw [if_neg hb, List.nil_append, decide_eq_false hb]
      exact Ev.congr (fun k => by rw [if_neg (by simp), hw]) (ih (i + 1) acc (by omega) (by omega) (by omega))

theorem sFree_bad {w h : Int} {c : ByteArray} (g : gridOk w h c = false) (d : Nat) : ∀ i : Int, 0 ≤ i → i + d = 64 → Ev (fun k => spec_FreeCells.l0 k [] i w h c) [] := by
  have stop : ∀ i : Int, Ev (fun k => spec_FreeCells.j1 k [] i false w h c) [] := fun i => Ev.step (f := fun _ => some []) (fun k => by rw [spec_FreeCells.j1, if_neg (by simp)]) (Ev.now _)
  have hf : ∀ i, freeAt w h c i = false := fun i => by unfold freeAt; rw [g]; rfl
  induction d with
  | zero =>
    intro i h0 h1
    by_cases hc : i < (c.size : Int)
    · exact Ev.step (fun k => by rw [spec_FreeCells.l0, if_pos hc, decide_eq_false (by omega)]) (stop i)
    · exact Ev.step (fun k => by rw [spec_FreeCells.l0, if_neg hc]) (stop i)
  | succ d ih =>
    intro i h0 h1
    by_cases hc : i < (c.size : Int)
    · refine Ev.step (fun k => by rw [spec_FreeCells.l0, if_pos hc, decide_eq_true (show i < 64 by omega)]) (Ev.step (fun k => by rw [spec_FreeCells.j1, if_pos rfl]) (Ev.bind (sFreeAt w h c i) ?_))
      rw [hf]
      exact Ev.congr (fun k => by rw [if_neg (by simp), w64 (x := i + 1) (by omega) (by omega)]) (ih (i + 1) (by omega) (by omega))
    · exact Ev.step (fun k => by rw [spec_FreeCells.l0, if_neg hc]) (stop i)

theorem sFreeCells (w h : Int) (c : ByteArray) : Ev (fun k => spec_FreeCells.f k w h c) (freeCells w h c) := by
  unfold freeCells
  cases g : gridOk w h c with
  | false => rw [if_neg (by simp)]; exact sFree_bad g 64 0 (by omega) (by omega)
  | true =>
    rw [if_pos rfl]
    have hs := gridOk_size g
    have h0 := sFree_l0 g c.size 0 [] (by omega) (by omega) (by simp; omega)
    rw [List.nil_append] at h0
    exact h0

/-! impl.FreeCells -/
theorem iFree_l0 {w h : Int} {c : ByteArray} (g : gridOk w h c = true) (d : Nat) : ∀ (i : Int) (acc : List Int), 0 ≤ i → i + d = c.size → acc.length + d ≤ 100 →
    Ev (fun k => impl_FreeCells.l0 k acc i w h c) (acc ++ freeList c d i) := by
  have hs := gridOk_size g
  induction d with
  | zero =>
    intro i acc h0 h1 h2
    rw [freeList, List.append_nil]
    exact Ev.step (f := fun _ => some acc) (fun k => by rw [impl_FreeCells.l0, if_neg (by omega)]) (Ev.now _)
  | succ d ih =>
    intro i acc h0 h1 h2
    have hw : wrap64 (i + 1) = i + 1 := w64 (by omega) (by omega)
    rw [freeList]
    by_cases hb : bt c i ≠ 35
    · rw [if_pos hb, ← List.append_assoc]
      exact Ev.step (fun k => by rw [impl_FreeCells.l0, if_pos (by omega), isFree_eq g, freeAt_in g h0 (by omega), decide_eq_true hb, Option.bind_some, if_pos rfl, if_pos (by omega), hw]) (ih (i + 1) (acc ++ [i]) (by omega) (by omega) (by simp; omega))
    · rw [if_neg hb, List.nil_append]
      exact Ev.step (fun k => by rw [impl_FreeCells.l0, if_pos (by omega), isFree_eq g, freeAt_in g h0 (by omega), decide_eq_false hb, Option.bind_some, if_neg (by simp), hw]) (ih (i + 1) acc (by omega) (by omega) (by omega))

theorem iFreeCells (w h : Int) (c : ByteArray) : Ev (fun k => impl_FreeCells.f k w h c) (freeCells w h c) := by
  refine Ev.bind (iGridOk w h c) ?_
  unfold freeCells
  cases g : gridOk w h c with
  | false => exact Ev.of_eq fun k => by rw [if_neg (by simp), if_neg (by simp)]
  | true =>
    rw [if_pos rfl]
    have hs := gridOk_size g
    have h0 := iFree_l0 g c.size 0 [] (by omega) (by omega) (by simp; omega)
    rw [List.nil_append] at h0
    exact Ev.congr (fun k => by rw [if_pos rfl]) h0

end Go.Proofs.Ytabepbkolmimlaa.QFnExactEnough

/- What the functions that the law FnHomes reaches compute: StepsFromI, FreeAtI, HomeIs, HomeOfI, FreeCellsI, Sym, StepIs, Conn, CountInI, AreFree, StepsToI, HomesL. -/
import Derived.Test.YtabepbkolmimlaaPFnHomesx
import Derived.Test.YtabepbkolmimlaaMBase
import Derived.Test.YtabepbkolmimlaaMDraw
import Derived.Test.YtabepbkolmimlaaMGrid
import Derived.Test.YtabepbkolmimlaaMLists
import Derived.Test.YtabepbkolmimlaaMSteps
import Derived.Test.YtabepbkolmimlaaMScan
import Derived.Test.YtabepbkolmimlaaQFnHomesAll0
namespace Go.Proofs.Ytabepbkolmimlaa.QFnHomes
open Go.RowKit Go.Proofs.Ytabepbkolmimlaa.PFnHomes Go.Proofs.YtabepbkolmimlaaW.PrintWords Go.Proofs.YtabepbkolmimlaaW.PrintLast Go.Proofs.YtabepbkolmimlaaW.PrintMore Go.Proofs.Ytabepbkolmimlaa.MBase Go.Proofs.Ytabepbkolmimlaa.MDraw Go.Proofs.Ytabepbkolmimlaa.MGrid Go.Proofs.Ytabepbkolmimlaa.MLists Go.Proofs.Ytabepbkolmimlaa.MSteps Go.Proofs.Ytabepbkolmimlaa.MScan
set_option linter.unusedVariables false
set_option linter.unusedSimpArgs false

/-! impl.StepsFrom -/
section
variable {w h : Int} {c : ByteArray} {S : Int → Prop}
theorem ii_l2 (g : gridOk w h c = true) (i : Nat)
    (next : ∀ d Q, Que c.size (around w h c) S (i + 1) d Q → ∃ r, Ev (fun k => impl_StepsFrom.l1 k d Q ((i + 1 : Nat) : Int) w h c) r ∧ Lab c.size (around w h c) S r) (x : Int) (hx : Cell c.size x) (m : Nat) :
    ∀ (j : Nat) (d Q : List Int), j + m = (around w h c x).length → i < Q.length → Q.getD i 0 = x → Que c.size (around w h c) S i d Q → Seen (around w h c) i j d Q →
      ∃ r, Ev (fun k => impl_StepsFrom.l2 k d Q i (around w h c x) ((around w h c x).length : Int) j w h c) r ∧ Lab c.size (around w h c) S r := by
  have hA : ∀ x, Cell c.size x → ∀ y, y ∈ around w h c x → Cell c.size y := fun x _ y hy => around_cell hy
  have hc := (gridOk_size g).2
  have hlen := around_len w h c x
  have x0 := hx.1
  have x1 := hx.2
  induction m with
  | zero =>
    intro j d Q hj hi hQ q hs
    have hlq := q.len_le
    have hw1 : wrap64 ((i : Int) + 1) = ((i + 1 : Nat) : Int) := by rw [w64 (by omega) (by omega)]; omega
    obtain ⟨r, hr, hl⟩ := next d Q (q.next hA hi hs (by rw [hQ]; omega))
    exact ⟨r, Ev.step (fun k => by rw [impl_StepsFrom.l2, if_neg (by omega), hw1]) hr, hl⟩
  | succ m ih =>
    intro j d Q hj hi hQ q hs
    have hlq := q.len_le
    have hjl : j < (around w h c x).length := by omega
    have hyA := getD_mem hjl
    have hy := around_cell hyA
    have hd := q.len
    have hw3 : wrap64 ((j : Int) + 1) = ((j + 1 : Nat) : Int) := by rw [w64 (by omega) (by omega)]; omega
    have y0 := hy.1
    have y1 := hy.2
    have hin := q.inQ i hi
    rw [hQ] at hin
    have hsm := q.toBase.small x hx
    have hw2 : wrap64 (rd d x + 1) = rd d x + 1 := w64 (by omega) (by omega)
    by_cases hb : rd d ((around w h c x).getD j 0) < 0
    · have q' := q.put hA hi (y := (around w h c x).getD j 0) (by rw [hQ]; exact hyA) hb
      rw [hQ] at q'
      have hQ' : (Q ++ [(around w h c x).getD j 0]).getD i 0 = x := by rw [getD_push, if_pos hi]; exact hQ
      have hs' : Seen (around w h c) i (j + 1) (d.set ((around w h c x).getD j 0).toNat (rd d x + 1)) (Q ++ [(around w h c x).getD j 0]) := by
        intro z hz
        rw [hQ'] at hz
        rcases take_succ_mem hjl hz with h1 | h1
        · have h2 := hs z (by rw [hQ]; exact h1)
          rw [q.toBase.keep hy hb (around_cell (List.mem_of_mem_take h1)) h2]; exact h2
        · rw [h1, rd_set q.len hy hy, if_pos rfl]; omega
      obtain ⟨r, hr, hl⟩ := ih (j + 1) _ _ (by omega) (by simp; omega) hQ' q' hs'
      exact ⟨r, Ev.step (fun k => by rw [impl_StepsFrom.l2, if_pos (by omega), if_pos (by omega), if_pos (by omega), rdN, if_pos y0, if_pos (by rw [hd]; exact y1), if_pos hb, if_pos (by omega), if_pos (by omega), rdN Q i, hQ, if_pos x0, if_pos (by rw [hd]; exact x1), if_pos (by omega), hw2, hw3]) hr, hl⟩
    · have hs' : Seen (around w h c) i (j + 1) d Q := by
        intro z hz
        rw [hQ] at hz
        rcases take_succ_mem hjl hz with h1 | h1
        · exact hs z (by rw [hQ]; exact h1)
        · rw [h1]; omega
      obtain ⟨r, hr, hl⟩ := ih (j + 1) d Q (by omega) hi hQ q hs'
      exact ⟨r, Ev.step (fun k => by rw [impl_StepsFrom.l2, if_pos (by omega), if_pos (by omega), if_pos (by omega), rdN, if_pos y0, if_pos (by rw [hd]; exact y1), if_neg hb, hw3]) hr, hl⟩

theorem ii_l1 (g : gridOk w h c = true) (m : Nat) : ∀ (i : Nat) (d Q : List Int), i + m = c.size → Que c.size (around w h c) S i d Q → ∃ r, Ev (fun k => impl_StepsFrom.l1 k d Q i w h c) r ∧ Lab c.size (around w h c) S r := by
  have hc := (gridOk_size g).2
  induction m with
  | zero =>
    intro i d Q hi q
    have hlq := q.len_le
    exact ⟨d, Ev.step (f := fun _ => some d) (fun k => by rw [impl_StepsFrom.l1, if_neg (by omega)]) (Ev.now _), q.lab (by omega)⟩
  | succ m ih =>
    intro i d Q hi q
    by_cases hq : i < Q.length
    · have hx := (q.inQ i hq).1
      have x0 := hx.1
      have x1 := hx.2
      obtain ⟨r, hr, hl⟩ := ii_l2 g i (fun d' Q' q' => ih (i + 1) d' Q' (by omega) q') (Q.getD i 0) hx (around w h c (Q.getD i 0)).length 0 d Q (Nat.zero_add _) hq rfl q (fun y hy => by simp at hy)
      exact ⟨r, Ev.step (fun k => by rw [impl_StepsFrom.l1, if_pos (by omega), if_pos (by omega), rdN]) (Ev.bind (iaround_any g (Q.getD i 0) (by omega) (by omega)) hr), hl⟩
    · exact ⟨d, Ev.step (f := fun _ => some d) (fun k => by rw [impl_StepsFrom.l1, if_neg (by omega)]) (Ev.now _), q.lab (by omega)⟩

/-- the sources are laid into the queue -/
structure Src (n : Nat) (l : List Int) (i : Nat) (d Q : List Int) : Prop where
  len : d.length = n
  two : ∀ z, Cell n z → rd d z = 0 ∨ rd d z = -1
  src : ∀ z, Cell n z → (rd d z = 0 ↔ z ∈ l.take i)
  inQ : ∀ a : Nat, a < Q.length → Cell n (Q.getD a 0) ∧ rd d (Q.getD a 0) = 0
  all : ∀ z, Cell n z → rd d z = 0 → ∃ a : Nat, a < Q.length ∧ Q.getD a 0 = z
  room : bare n d + Q.length ≤ n

theorem Src.que {n : Nat} {A : Int → List Int} {l : List Int} {i : Nat} {d Q : List Int} (s : Src n l i d Q) (hi : l.length ≤ i) : Que n A (fun z => z ∈ l) 0 d Q where
  len := s.len
  lo := fun z hz => by rcases s.two z hz with h | h <;> omega
  src := fun z hz => by have := s.src z hz; rwa [List.take_of_length_le hi] at this
  pred := fun z hz h => by rcases s.two z hz with h | h <;> omega
  inQ := fun a ha => ⟨(s.inQ a ha).1, by rw [(s.inQ a ha).2]; exact Int.le_refl _⟩
  all := fun z hz h => s.all z hz (by rcases s.two z hz with h | h <;> omega)
  mono := fun a b hab hb => by rw [(s.inQ a (by omega)).2, (s.inQ b hb).2]; exact Int.le_refl _
  done := fun a ha => by omega
  room := s.room
  near := fun h0 b hb => by rw [(s.inQ b hb).2, (s.inQ 0 h0).2]; omega

theorem mem_take_succ {l : List Int} {i : Nat} (hi : i < l.length) (z : Int) : z ∈ l.take (i + 1) ↔ z ∈ l.take i ∨ z = l.getD i 0 := by
  rw [List.take_add_one, List.getElem?_eq_getElem hi, List.mem_append, List.getD_eq_getElem?_getD, List.getElem?_eq_getElem hi]
  simp

theorem Src.put {n : Nat} {l : List Int} {i : Nat} {d Q : List Int} (s : Src n l i d Q) (hi : i < l.length) (hy : Cell n (l.getD i 0)) (hb : rd d (l.getD i 0) < 0) : Src n l (i + 1) (d.set (l.getD i 0).toNat 0) (Q ++ [l.getD i 0]) := by
  have hmem := fun z => mem_take_succ hi z
  generalize l.getD i 0 = y at *
  have hr := fun z hz => rd_set s.len (x := z) hz hy 0
  have gl : ∀ a : Nat, a < Q.length → (Q ++ [y]).getD a 0 = Q.getD a 0 := fun a ha => by rw [getD_push, if_pos ha]
  have ge : (Q ++ [y]).getD Q.length 0 = y := by rw [getD_push, if_neg (by omega), if_pos rfl]
  have hl : (Q ++ [y]).length = Q.length + 1 := by simp
  have hbare := bare_set s.len hy hb (v := 0) (by omega)
  have hroom := s.room
  refine ⟨by rw [List.length_set]; exact s.len, ?_, ?_, ?_, ?_, by omega⟩
  · intro z hz; rw [hr z hz]; split
    · exact .inl rfl
    · exact s.two z hz
  · intro z hz; rw [hr z hz, hmem]; split
    · rename_i e; exact ⟨fun _ => .inr e, fun _ => rfl⟩
    · rename_i e
      rw [s.src z hz]
      exact ⟨fun a => .inl a, fun a => a.resolve_right e⟩
  · intro a ha
    by_cases h1 : a < Q.length
    · rw [gl a h1]
      have := s.inQ a h1
      refine ⟨this.1, ?_⟩
      rw [hr _ this.1]; split
      · rfl
      · exact this.2
    · rw [show a = Q.length by omega, ge]
      exact ⟨hy, by rw [hr y hy, if_pos rfl]⟩
  · intro z hz h0
    by_cases e : z = y
    · exact ⟨Q.length, by omega, by rw [ge, e]⟩
    · rw [hr z hz, if_neg e] at h0
      obtain ⟨a, ha, ea⟩ := s.all z hz h0
      exact ⟨a, by omega, by rw [gl a ha]; exact ea⟩

theorem Src.skip {n : Nat} {l : List Int} {i : Nat} {d Q : List Int} (s : Src n l i d Q) (hi : i < l.length) (hy : Cell n (l.getD i 0)) (hb : ¬ rd d (l.getD i 0) < 0) : Src n l (i + 1) d Q := by
  refine { s with src := ?_ }
  intro z hz
  rw [mem_take_succ hi, s.src z hz]
  refine ⟨fun a => .inl a, fun a => a.elim id (fun e => ?_)⟩
  rw [e]
  rcases s.two _ hy with h1 | h1
  · exact (s.src _ hy).1 h1
  · omega

theorem ii_l0 (g : gridOk w h c = true) (l : List Int) (hl : l.length ≤ 1048576) (hall : ∀ z, z ∈ l → freeAt w h c z = true) (m : Nat) : ∀ (i : Nat) (d Q : List Int), i + m = l.length → Src c.size l i d Q → ∃ r, Ev (fun k => impl_StepsFrom.l0 k d Q l (l.length : Int) i w h c) r ∧ Lab c.size (around w h c) (fun z => z ∈ l) r := by
  have hc := (gridOk_size g).2
  induction m with
  | zero =>
    intro i d Q hi s
    obtain ⟨r, hr, hlab⟩ := ii_l1 g c.size 0 d Q (Nat.zero_add _) (s.que (by omega))
    exact ⟨r, Ev.step (fun k => by rw [impl_StepsFrom.l0, if_neg (by omega)]; rfl) hr, hlab⟩
  | succ m ih =>
    intro i d Q hi s
    have hil : i < l.length := by omega
    have hf := freeAt_iff.mp (hall _ (getD_mem hil))
    have hy : Cell c.size (l.getD i 0) := ⟨hf.2.1, hf.2.2.1⟩
    have y0 := hy.1
    have y1 := hy.2
    have hd := s.len
    have hb0 := bare_nonneg c.size d
    have hroom := s.room
    have hw3 : wrap64 ((i : Int) + 1) = ((i + 1 : Nat) : Int) := by rw [w64 (by omega) (by omega)]; omega
    by_cases hb : rd d (l.getD i 0) < 0
    · obtain ⟨r, hr, hlab⟩ := ih (i + 1) _ _ (by omega) (s.put hil hy hb)
      exact ⟨r, Ev.step (fun k => by rw [impl_StepsFrom.l0, if_pos (by omega), if_pos (by omega), if_pos (by omega), rdN, if_pos y0, if_pos (by rw [hd]; exact y1), if_pos hb, if_pos (by omega), hw3]) hr, hlab⟩
    · obtain ⟨r, hr, hlab⟩ := ih (i + 1) d Q (by omega) (s.skip hil hy hb)
      exact ⟨r, Ev.step (fun k => by rw [impl_StepsFrom.l0, if_pos (by omega), if_pos (by omega), if_pos (by omega), rdN, if_pos y0, if_pos (by rw [hd]; exact y1), if_neg hb, hw3]) hr, hlab⟩
end

theorem ii_free {w h : Int} {c : ByteArray} (g : gridOk w h c = true) (l : List Int) (hl : l.length ≤ 1048576) (m : Nat) : ∀ i : Nat, i + m = l.length → ((∀ z, z ∈ l.drop i → freeAt w h c z = true) → Ev (fun k => slices_ContainsFunc_int_int.l0 k (l.length : Int) i l w h c) false) ∧ ((¬ ∀ z, z ∈ l.drop i → freeAt w h c z = true) → Ev (fun k => slices_ContainsFunc_int_int.l0 k (l.length : Int) i l w h c) true) := by
  induction m with
  | zero =>
    intro i hi
    have e : l.drop i = [] := List.drop_eq_nil_of_le (by omega)
    rw [e]
    refine ⟨fun _ => Ev.step (f := fun _ => some false) (fun k => by rw [slices_ContainsFunc_int_int.l0, if_neg (by omega)]) (Ev.now _), fun hn => absurd (fun z hz => by cases hz) hn⟩
  | succ m ih =>
    intro i hi
    have hw3 : wrap64 ((i : Int) + 1) = ((i + 1 : Nat) : Int) := by rw [w64 (by omega) (by omega)]; omega
    rw [drop_cons l i 0 (by omega)]
    have ih' := ih (i + 1) (by omega)
    cases hq : freeAt w h c (l.getD i 0) with
    | true =>
      refine ⟨fun hall => ?_, fun hn => ?_⟩
      · exact Ev.step (fun k => by rw [slices_ContainsFunc_int_int.l0, if_pos (by omega), if_pos (by omega), if_pos (by omega), isFree_eq g, rdN, hq, Option.bind_some, if_pos rfl, hw3]) (ih'.1 (fun z hz => hall z (List.mem_cons_of_mem _ hz)))
      · exact Ev.step (fun k => by rw [slices_ContainsFunc_int_int.l0, if_pos (by omega), if_pos (by omega), if_pos (by omega), isFree_eq g, rdN, hq, Option.bind_some, if_pos rfl, hw3]) (ih'.2 (fun hh => hn (fun z hz => by
          rcases List.mem_cons.1 hz with e | e
          · rw [e]; exact hq
          · exact hh z e)))
    | false =>
      refine ⟨fun hall => ?_, fun hn => ?_⟩
      · have := hall _ (List.mem_cons_self ..)
        rw [hq] at this; cases this
      · exact Ev.step (f := fun _ => some true) (fun k => by rw [slices_ContainsFunc_int_int.l0, if_pos (by omega), if_pos (by omega), if_pos (by omega), isFree_eq g, rdN, hq, Option.bind_some, if_neg (by simp)]) (Ev.now _)

theorem ii_rep (x1 : Nat) (v : Int) (hx : x1 ≤ 64) (m : Nat) : ∀ i : Nat, i + m = x1 → Ev (fun k => slices_Repeat_int_int.l0 k x1 v (List.replicate i v) i) (List.replicate x1 v) := by
  induction m with
  | zero =>
    intro i hi
    obtain rfl : i = x1 := by omega
    exact Ev.step (f := fun _ => some (List.replicate i v)) (fun k => by rw [slices_Repeat_int_int.l0, if_neg (by omega)]) (Ev.now _)
  | succ m ih =>
    intro i hi
    have hw3 : wrap64 ((i : Int) + 1) = ((i + 1 : Nat) : Int) := by rw [w64 (by omega) (by omega)]; omega
    exact Ev.step (fun k => by rw [slices_Repeat_int_int.l0, if_pos (by omega), if_pos (by rw [List.length_replicate]; omega), hw3, ← List.replicate_succ']) (ih (i + 1) (by omega))

theorem iRepeat (v : Int) (n : Nat) (hn : n ≤ 64) : Ev (fun k => slices_Repeat_int_int.f k [v] n) (List.replicate n v) := by
  have e : wrap64 (wrap64 ((([v] : List Int).length : Int) + (([v] : List Int).length : Int)) - 2) = 0 := by rw [List.length_singleton]; unfold wrap64; omega
  refine Ev.congr (fun k => by unfold slices_Repeat_int_int.f; rw [e, if_pos (by omega), if_pos (by simp)]; rfl) (ii_rep n v hn n 0 (Nat.zero_add _))

theorem src_start (n : Nat) (l : List Int) : Src n l 0 (List.replicate n (-1)) [] := by
  have hr : ∀ z, Cell n z → rd (List.replicate n (-1)) z = -1 := fun z hz => by
    have := hz.1; have := hz.2
    unfold rd
    rw [List.getD_eq_getElem?_getD, List.getElem?_replicate, if_pos (by omega)]
    rfl
  refine ⟨by simp, fun z hz => .inr (hr z hz), fun z hz => by rw [hr z hz]; simp, fun a ha => by simp at ha, fun z hz h => by rw [hr z hz] at h; omega, ?_⟩
  have := bare_le n (List.replicate n (-1))
  simp only [List.length_nil]
  omega

theorem iStepsFrom (w h : Int) (c : ByteArray) (l : List Int) (hl : l.length ≤ 1048576) : ∃ r, Ev (fun k => impl_StepsFrom.f k w h c l) r ∧ Answer w h c l r := by
  have hg := iGridOk w h c
  have bad : Ev (fun k => impl_StepsFrom.j0 k l true w h c) [] := Ev.step (f := fun _ => some []) (fun k => by rw [impl_StepsFrom.j0, if_pos rfl]) (Ev.now _)
  cases g : gridOk w h c with
  | false =>
    rw [g] at hg
    exact ⟨[], Ev.bind hg (Ev.congr (fun k => by rw [if_neg (by simp)]) bad), .inr ⟨fun hh => absurd (hh.1.symm.trans g) (by simp), rfl⟩⟩
  | true =>
    rw [g] at hg
    have hc := (gridOk_size g).2
    have h0 := ii_free g l hl l.length 0 (Nat.zero_add _)
    rw [List.drop_zero, show ((0 : Nat) : Int) = 0 from rfl] at h0
    have hF : (∀ z, z ∈ l → freeAt w h c z = true) → Ev (fun k => slices_ContainsFunc_int_int.f k l w h c) false := h0.1
    have hT : (¬ ∀ z, z ∈ l → freeAt w h c z = true) → Ev (fun k => slices_ContainsFunc_int_int.f k l w h c) true := h0.2
    by_cases hall : ∀ z, z ∈ l → freeAt w h c z = true
    · obtain ⟨r, hr, hlab⟩ := ii_l0 g l hl hall l.length 0 _ _ (Nat.zero_add _) (src_start c.size l)
      refine ⟨r, Ev.bind hg (Ev.congr (fun k => by rw [if_pos rfl]) (Ev.bind (hF hall) ?_)), .inl ⟨g, hall, hlab⟩⟩
      exact Ev.step (fun k => by rw [impl_StepsFrom.j0, if_neg (by simp)]) (Ev.bind (iRepeat (-1) c.size hc) hr)
    · exact ⟨[], Ev.bind hg (Ev.congr (fun k => by rw [if_pos rfl]) (Ev.bind (hT hall) bad)), .inr ⟨fun hh => hall hh.2, rfl⟩⟩

/-! impl.FreeAt -/
theorem iFreeAt (w h : Int) (c : ByteArray) (x : Int) : Ev (fun k => impl_FreeAt.f k w h c x) (freeAt w h c x) := by
  refine Ev.bind (iGridOk w h c) ?_
  cases hg : gridOk w h c with
  | false => simp only [Bool.false_eq_true, if_false, freeAt, hg, Bool.false_and]; exact Ev.now _
  | true => simp only [if_true, isFree_eq hg, Option.bind_some]; exact Ev.now _

/-! what HomeOf answers -/
/-- the first cell that a free cell reaches; -1 for what is no free cell -/
def HomeIs (w h : Int) (c : ByteArray) (a v : Int) : Prop :=
  (freeAt w h c a = false ∧ v = -1) ∨ (freeAt w h c a = true ∧ ∃ r, Answer w h c [a] r ∧ 0 ≤ rd r v ∧ 0 ≤ v ∧ v ≤ a ∧ ∀ i, 0 ≤ i → i < v → rd r i < 0)

theorem HomeIs.unique {w h : Int} {c : ByteArray} {a v u : Int} (p : HomeIs w h c a v) (q : HomeIs w h c a u) : v = u := by
  rcases p with ⟨p1, p2⟩ | ⟨p1, r, p2, p3, p4, p5, p6⟩
  · rcases q with ⟨q1, q2⟩ | ⟨q1, _⟩
    · omega
    · rw [p1] at q1; cases q1
  · rcases q with ⟨q1, _⟩ | ⟨q1, s, q2, q3, q4, q5, q6⟩
    · rw [p1] at q1; cases q1
    · obtain rfl := p2.unique q2
      rcases Int.lt_or_le v u with h1 | h1
      · have := q6 v p4 h1; omega
      · rcases Int.lt_or_le u v with h2 | h2
        · have := p6 u q4 h2; omega
        · omega

/-- a free cell's own label is 0 -/
theorem answer_self {w h : Int} {c : ByteArray} {a : Int} {r : List Int} (ha : freeAt w h c a = true) (p : Answer w h c [a] r) : rd r a = 0 ∧ r.length = c.size ∧ 0 ≤ a ∧ a < c.size ∧ c.size ≤ 64 := by
  have f := freeAt_iff.mp ha
  rcases p with ⟨g, _, lab⟩ | ⟨e, _⟩
  · exact ⟨(lab.src a ⟨f.2.1, f.2.2.1⟩).2 (List.mem_singleton.2 rfl), lab.len, f.2.1, f.2.2.1, (gridOk_size g).2⟩
  · exact absurd ⟨f.1, fun z hz => by rw [List.mem_singleton.1 hz]; exact ha⟩ e

/-! impl.HomeOf -/
theorem iHome_l0 (a : Int) (r : List Int) (h0 : 0 ≤ a) (h1 : a < r.length) (hl : r.length ≤ 64) (ha : rd r a = 0) (m : Nat) : ∀ i : Nat, (i : Int) + m = a → (∀ j : Int, 0 ≤ j → j < i → rd r j < 0) → ∃ v, Ev (fun k => slices_IndexFunc_int_int.l0 k (r.length : Int) i r) v ∧ 0 ≤ rd r v ∧ 0 ≤ v ∧ v ≤ a ∧ ∀ j, 0 ≤ j → j < v → rd r j < 0 := by
  induction m with
  | zero =>
    intro i hi hb
    have e : (i : Int) = a := by omega
    exact ⟨a, Ev.step (f := fun _ => some a) (fun k => by rw [slices_IndexFunc_int_int.l0, if_pos (by omega), if_pos (by omega), if_pos (by omega), if_neg (by rw [e]; omega), e]) (Ev.now _), by omega, h0, Int.le_refl _, fun j a1 a2 => hb j a1 (by omega)⟩
  | succ m ih =>
    intro i hi hb
    by_cases hc : rd r (i : Int) < 0
    · have hw3 : wrap64 ((i : Int) + 1) = ((i + 1 : Nat) : Int) := by rw [w64 (by omega) (by omega)]; omega
      obtain ⟨v, hv, hp⟩ := ih (i + 1) (by omega) (fun j a1 a2 => by
        by_cases e : j = i
        · rw [e]; omega
        · exact hb j a1 (by omega))
      exact ⟨v, Ev.step (fun k => by rw [slices_IndexFunc_int_int.l0, if_pos (by omega), if_pos (by omega), if_pos (by omega), if_pos hc, hw3]) hv, hp⟩
    · exact ⟨i, Ev.step (f := fun _ => some (i : Int)) (fun k => by rw [slices_IndexFunc_int_int.l0, if_pos (by omega), if_pos (by omega), if_pos (by omega), if_neg hc]) (Ev.now _), by omega, by omega, by omega, hb⟩

theorem iHomeOf (w h : Int) (c : ByteArray) (a : Int) : ∃ v, Ev (fun k => impl_HomeOf.f k w h c a) v ∧ HomeIs w h c a v := by
  have fa := iFreeAt w h c a
  cases ha : freeAt w h c a with
  | false =>
    rw [ha] at fa
    exact ⟨-1, Ev.bind fa (Ev.of_eq fun k => by rw [if_neg (by simp)]), .inl ⟨ha, rfl⟩⟩
  | true =>
    rw [ha] at fa
    obtain ⟨r, hr, hA⟩ := iStepsFrom w h c [a] (by simp)
    obtain ⟨e1, e2, e3, e4, e5⟩ := answer_self ha hA
    obtain ⟨v, hv, hp⟩ := iHome_l0 a r e3 (by omega) (by omega) e1 a.toNat 0 (by omega) (fun j a1 a2 => by omega)
    have hv2 : Ev (fun k => slices_IndexFunc_int_int.f k r) v := hv
    refine ⟨v, Ev.bind fa (Ev.congr (fun k => by rw [if_pos rfl]) (Ev.bind hr (Ev.bind hv2 ?_))), .inr ⟨ha, r, hA, hp⟩⟩
    exact Ev.of_eq fun k => rfl

/-! impl.FreeCells -/
theorem iFree_l0 {w h : Int} {c : ByteArray} (g : gridOk w h c = true) (d : Nat) : ∀ (i : Int) (acc : List Int), 0 ≤ i → i + d = c.size → acc.length + d ≤ 100 →
    Ev (fun k => impl_FreeCells.l0 k acc i w h c) (acc ++ freeList c d i) := by
  have hs := gridOk_size g
  induction d with
  | zero =>
    intro i acc h0 h1 h2
    rw [freeList, List.append_nil]
    exact Ev.step (f := fun _ => some acc) (fun k => by rw [impl_FreeCells.l0, if_neg (by omega)]) (Ev.now _)
  | succ d ih =>
    intro i acc h0 h1 h2
    have hw : wrap64 (i + 1) = i + 1 := w64 (by omega) (by omega)
    rw [freeList]
    by_cases hb : bt c i ≠ 35
    · rw [if_pos hb, ← List.append_assoc]
      exact Ev.step (fun k => by rw [impl_FreeCells.l0, if_pos (by omega), isFree_eq g, freeAt_in g h0 (by omega), decide_eq_true hb, Option.bind_some, if_pos rfl, if_pos (by omega), hw]) (ih (i + 1) (acc ++ [i]) (by omega) (by omega) (by simp; omega))
    · rw [if_neg hb, List.nil_append]
      exact Ev.step (fun k => by rw [impl_FreeCells.l0, if_pos (by omega), isFree_eq g, freeAt_in g h0 (by omega), decide_eq_false hb, Option.bind_some, if_neg (by simp), hw]) (ih (i + 1) acc (by omega) (by omega) (by omega))

theorem iFreeCells (w h : Int) (c : ByteArray) : Ev (fun k => impl_FreeCells.f k w h c) (freeCells w h c) := by
  refine Ev.bind (iGridOk w h c) ?_
  unfold freeCells
  cases g : gridOk w h c with
  | false => exact Ev.of_eq fun k => by rw [if_neg (by simp), if_neg (by simp)]
  | true =>
    rw [if_pos rfl]
    have hs := gridOk_size g
    have h0 := iFree_l0 g c.size 0 [] (by omega) (by omega) (by simp; omega)
    rw [List.nil_append] at h0
    exact Ev.congr (fun k => by rw [if_pos rfl]) h0

/-! neighbours are neighbours both ways; distances are symmetric and obey the triangle inequality -/
theorem mem_addIf {b : Bool} {v u : Int} : v ∈ addIf b u ↔ b = true ∧ v = u := by
  unfold addIf
  cases b <;> simp

theorem mem_around {w h : Int} {c : ByteArray} {x y : Int} : y ∈ around w h c x ↔ freeAt w h c x = true ∧ freeAt w h c y = true ∧ (y = x - w ∨ (0 < x % w ∧ y = x - 1) ∨ (x % w < w - 1 ∧ y = x + 1) ∨ y = x + w) := by
  unfold around
  cases hx : freeAt w h c x with
  | false => simp
  | true =>
    rw [if_pos rfl]
    simp only [List.mem_append, mem_addIf, Bool.and_eq_true, decide_eq_true_eq]
    constructor
    · rintro (⟨a, rfl⟩ | ⟨⟨a, b⟩, rfl⟩ | ⟨⟨a, b⟩, rfl⟩ | ⟨a, rfl⟩)
      · exact ⟨trivial, a, .inl rfl⟩
      · exact ⟨trivial, b, .inr (.inl ⟨a, rfl⟩)⟩
      · exact ⟨trivial, b, .inr (.inr (.inl ⟨a, rfl⟩))⟩
      · exact ⟨trivial, a, .inr (.inr (.inr rfl))⟩
    · rintro ⟨_, a, rfl | ⟨b, rfl⟩ | ⟨b, rfl⟩ | rfl⟩
      · exact .inl ⟨a, rfl⟩
      · exact .inr (.inl ⟨⟨b, a⟩, rfl⟩)
      · exact .inr (.inr (.inl ⟨⟨b, a⟩, rfl⟩))
      · exact .inr (.inr (.inr ⟨a, rfl⟩))

theorem emod_of {w q r x : Int} (h0 : 0 ≤ r) (h1 : r < w) (e : x = q * w + r) : x % w = r := by
  rw [e, Int.add_comm, Int.add_mul_emod_self_right, Int.emod_eq_of_lt h0 h1]

theorem around_symm {w h : Int} {c : ByteArray} {x y : Int} (hy : y ∈ around w h c x) : x ∈ around w h c y := by
  obtain ⟨fx, fy, hh⟩ := mem_around.mp hy
  obtain ⟨s1, s2, s3, s4, s5⟩ := gridOk_side (freeAt_iff.mp fx).1
  have e := spot_eq (w := w) (x := x)
  have r1 := Int.emod_nonneg x (show w ≠ 0 by omega)
  have r2 := Int.emod_lt_of_pos x (show 0 < w by omega)
  refine mem_around.mpr ⟨fy, fx, ?_⟩
  rcases hh with rfl | ⟨b, rfl⟩ | ⟨b, rfl⟩ | rfl
  · exact .inr (.inr (.inr (by omega)))
  · refine .inr (.inr (.inl ⟨?_, by omega⟩))
    rw [emod_of (q := x / w) (r := x % w - 1) (by omega) (by omega) (by omega)]
    omega
  · refine .inr (.inl ⟨?_, by omega⟩)
    rw [emod_of (q := x / w) (r := x % w + 1) (by omega) (by omega) (by omega)]
    omega
  · exact .inl (by omega)

/-- by way of x: e's label of a is at most e's label of x and x's distance from a -/
theorem lab_tri {n : Nat} {A : Int → List Int} {S : Int → Prop} {d e : List Int} {a : Int} (sym : ∀ x y, y ∈ A x → x ∈ A y) (p : Lab n A (fun z => z ∈ [a]) d) (q : Lab n A S e) (m : Nat) :
    ∀ x, Cell n x → rd d x = m → 0 ≤ rd e x → 0 ≤ rd e a ∧ rd e a ≤ rd e x + m := by
  induction m with
  | zero =>
    intro x hx hm h0
    have := (p.src x hx).1 (by rw [hm]; rfl)
    rw [List.mem_singleton] at this
    subst this
    omega
  | succ m ih =>
    intro x hx hm h0
    obtain ⟨u, hu, hxu, e1⟩ := p.pred x hx (by omega)
    have h1 := q.edge x hx h0 u (sym u x hxu)
    have h2 := ih u hu (by omega) h1.1
    omega

theorem lab_sym {n : Nat} {A : Int → List Int} {d e : List Int} {a b : Int} (sym : ∀ x y, y ∈ A x → x ∈ A y) (ha : Cell n a) (hb : Cell n b) (p : Lab n A (fun z => z ∈ [a]) d) (q : Lab n A (fun z => z ∈ [b]) e) : rd d b = rd e a := by
  have b0 : rd e b = 0 := (q.src b hb).2 (List.mem_singleton.2 rfl)
  have a0 : rd d a = 0 := (p.src a ha).2 (List.mem_singleton.2 rfl)
  have l1 := p.lo b hb
  have l2 := q.lo a ha
  rcases Int.lt_or_le (rd d b) 0 with h1 | h1
  · rcases Int.lt_or_le (rd e a) 0 with h2 | h2
    · omega
    · have := lab_tri sym q p (rd e a).toNat a ha (by omega) (by omega)
      omega
  · have t1 := lab_tri sym p q (rd d b).toNat b hb (by omega) (by omega)
    have t2 := lab_tri sym q p (rd e a).toNat a ha (by omega) (by omega)
    omega

/-! what StepsTo answers -/
def StepIs (w h : Int) (c : ByteArray) (a b n : Int) : Prop :=
  (¬ (freeAt w h c a = true ∧ freeAt w h c b = true) ∧ n = -1) ∨ (freeAt w h c a = true ∧ freeAt w h c b = true ∧ ∃ r, Answer w h c [a] r ∧ n = rd r b)

theorem StepIs.unique {w h : Int} {c : ByteArray} {a b n m : Int} (p : StepIs w h c a b n) (q : StepIs w h c a b m) : n = m := by
  rcases p with ⟨p1, p2⟩ | ⟨p1, p2, r, p3, p4⟩
  · rcases q with ⟨q1, q2⟩ | ⟨q1, q2, s, q3, q4⟩
    · omega
    · exact absurd ⟨q1, q2⟩ p1
  · rcases q with ⟨q1, q2⟩ | ⟨q1, q2, s, q3, q4⟩
    · exact absurd ⟨p1, p2⟩ q1
    · obtain rfl := p3.unique q3
      omega

theorem StepIs.get {w h : Int} {c : ByteArray} {a b n : Int} (p : StepIs w h c a b n) (hn : 0 ≤ n) : freeAt w h c a = true ∧ freeAt w h c b = true ∧ ∃ r, Answer w h c [a] r ∧ n = rd r b := by
  rcases p with ⟨p1, p2⟩ | p
  · omega
  · exact p

theorem answer_lab {w h : Int} {c : ByteArray} {a : Int} {r : List Int} (p : Answer w h c [a] r) (ha : freeAt w h c a = true) : Lab c.size (around w h c) (fun z => z ∈ [a]) r := by
  rcases p with ⟨_, _, lab⟩ | ⟨e, _⟩
  · exact lab
  · exact absurd ⟨(freeAt_iff.mp ha).1, fun z hz => by rw [List.mem_singleton.1 hz]; exact ha⟩ e

/-! one part: two free cells whose labels reach each other have the same part and the same home -/
theorem lab_to {n : Nat} {A : Int → List Int} {S : Int → Prop} {d e : List Int} {a : Int} (p : Lab n A (fun z => z ∈ [a]) d) (q : Lab n A S e) (ha : 0 ≤ rd e a) (m : Nat) :
    ∀ x, Cell n x → rd d x = m → 0 ≤ rd e x ∧ rd e x ≤ rd e a + m := by
  induction m with
  | zero =>
    intro x hx hm
    have := (p.src x hx).1 (by rw [hm]; rfl)
    rw [List.mem_singleton] at this
    subst this
    omega
  | succ m ih =>
    intro x hx hm
    obtain ⟨u, hu, hxu, e1⟩ := p.pred x hx (by omega)
    have h2 := ih u hu (by omega)
    have h1 := q.edge u hu h2.1 x hxu
    omega

theorem freeCell {w h : Int} {c : ByteArray} {a : Int} (ha : freeAt w h c a = true) : Cell c.size a := by
  have := freeAt_iff.mp ha
  exact ⟨this.2.1, this.2.2.1⟩

/-- what has a label is free -/
theorem label_free {w h : Int} {c : ByteArray} {a i : Int} {r : List Int} (ha : freeAt w h c a = true) (p : Answer w h c [a] r) (hi : Cell c.size i) (h0 : 0 ≤ rd r i) : freeAt w h c i = true := by
  have lab := answer_lab p ha
  rcases Int.lt_or_le 0 (rd r i) with h1 | h1
  · obtain ⟨u, hu, hiu, _⟩ := lab.pred i hi h1
    exact (mem_around.mp hiu).2.1
  · have := (lab.src i hi).1 (by omega)
    rw [List.mem_singleton] at this
    rw [this]; exact ha

theorem conn_same {w h : Int} {c : ByteArray} {a b : Int} {r s : List Int} (ha : freeAt w h c a = true) (hb : freeAt w h c b = true) (p : Answer w h c [a] r) (q : Answer w h c [b] s) (hab : 0 ≤ rd r b) : 0 ≤ rd s a ∧ ∀ i, Cell c.size i → (0 ≤ rd r i ↔ 0 ≤ rd s i) := by
  have l1 := answer_lab p ha
  have l2 := answer_lab q hb
  have sy := lab_sym (fun x y hy => around_symm hy) (freeCell ha) (freeCell hb) l1 l2
  refine ⟨by omega, fun i hi => ⟨fun h0 => ?_, fun h0 => ?_⟩⟩
  · exact (lab_to l1 l2 (by omega) (rd r i).toNat i hi (by omega)).1
  · exact (lab_to l2 l1 hab (rd s i).toNat i hi (by omega)).1

/-- a home is a free cell that is its own home -/
theorem home_free {w h : Int} {c : ByteArray} {a v : Int} (p : HomeIs w h c a v) (hv : 0 ≤ v) : freeAt w h c a = true ∧ freeAt w h c v = true ∧ v ≤ a ∧ ∃ r, Answer w h c [a] r ∧ 0 ≤ rd r v ∧ ∀ i, 0 ≤ i → i < v → rd r i < 0 := by
  rcases p with ⟨_, p2⟩ | ⟨p1, r, p2, p3, p4, p5, p6⟩
  · omega
  · have ca := freeCell p1
    exact ⟨p1, label_free p1 p2 ⟨p4, by have := ca.2; omega⟩ p3, p5, r, p2, p3, p6⟩

/-- the home of a cell is v just when v's labels reach it, v a home -/
theorem home_iff {w h : Int} {c : ByteArray} {v x u : Int} {s : List Int} (hv : HomeIs w h c v v) (h0 : 0 ≤ v) (hs : Answer w h c [v] s) (hx : Cell c.size x) (hu : HomeIs w h c x u) : u = v ↔ 0 ≤ rd s x := by
  obtain ⟨fv, _, _, s', hs', sv, low⟩ := home_free hv h0
  obtain rfl := hs'.unique hs
  constructor
  · rintro rfl
    obtain ⟨fx, _, _, r, hr, rv, _⟩ := home_free hu h0
    exact (conn_same fx fv hr hs rv).1
  · intro h1
    have fx := label_free fv hs hx h1
    rcases hu with ⟨e, _⟩ | ⟨_, r, hr, r1, r2, r3, r4⟩
    · rw [fx] at e; cases e
    · obtain ⟨c1, c2⟩ := conn_same fv fx hs hr h1
      rcases Int.lt_or_le u v with a1 | a1
      · have := low u r2 a1
        have := (c2 u ⟨r2, by have := hx.2; omega⟩).2 r1
        omega
      · rcases Int.lt_or_le v u with a2 | a2
        · have := r4 v h0 a2
          have := (c2 v (freeCell fv)).1 sv
          omega
        · omega

/-- what CountIn counts -/
def inPart (n : Nat) (s : List Int) (z : Int) : Bool := decide (0 ≤ z ∧ z < n ∧ 0 ≤ rd s z)

def CountIs (w h : Int) (c : ByteArray) (v : Int) (l : List Int) (n : Int) : Prop :=
  (¬ (HomeIs w h c v v ∧ 0 ≤ v) ∧ n = 0) ∨ ((HomeIs w h c v v ∧ 0 ≤ v) ∧ ∃ s, Answer w h c [v] s ∧ s.length = c.size ∧ n = (l.countP (inPart c.size s) : Int))

theorem CountIs.unique {w h : Int} {c : ByteArray} {v : Int} {l : List Int} {n m : Int} (p : CountIs w h c v l n) (q : CountIs w h c v l m) : n = m := by
  rcases p with ⟨p1, p2⟩ | ⟨p1, s, p2, _, p3⟩
  · rcases q with ⟨q1, q2⟩ | ⟨q1, t, q2, _, q3⟩
    · omega
    · exact absurd q1 p1
  · rcases q with ⟨q1, q2⟩ | ⟨q1, t, q2, _, q3⟩
    · exact absurd p1 q1
    · obtain rfl := p2.unique q2
      omega

theorem count_drop (p : Int → Bool) (l : List Int) (j : Nat) (hj : j < l.length) : ((l.drop j).countP p : Int) = (if p (l.getD j 0) = true then 1 else 0) + ((l.drop (j + 1)).countP p : Int) := by
  rw [drop_cons l j 0 hj, List.countP_cons]
  cases p (l.getD j 0) <;> simp <;> omega

/-! impl.CountIn -/
theorem iCount_l0 (s l : List Int) (hl : l.length ≤ 1048576) (m : Nat) : ∀ (j : Nat) (n : Int), j + m = l.length → 0 ≤ n → n ≤ j → Ev (fun k => impl_CountIn.l0 k s n l (l.length : Int) j) (n + ((l.drop j).countP (inPart s.length s) : Int)) := by
  induction m with
  | zero =>
    intro j n hj h0 h1
    have e : n + ((l.drop j).countP (inPart s.length s) : Int) = n := by rw [List.drop_eq_nil_of_le (by omega)]; simp
    rw [e]
    exact Ev.step (f := fun _ => some n) (fun k => by rw [impl_CountIn.l0, if_neg (by omega)]) (Ev.now _)
  | succ m ih =>
    intro j n hj h0 h1
    have hw3 : wrap64 ((j : Int) + 1) = ((j + 1 : Nat) : Int) := by rw [w64 (by omega) (by omega)]; omega
    have hw2 : wrap64 (n + 1) = n + 1 := w64 (by omega) (by omega)
    rw [count_drop _ l j (by omega)]
    by_cases a1 : 0 ≤ l.getD j 0
    · by_cases a2 : l.getD j 0 < s.length
      · by_cases a3 : 0 ≤ rd s (l.getD j 0)
        · have e : inPart s.length s (l.getD j 0) = true := decide_eq_true ⟨a1, a2, a3⟩
          rw [e, if_pos rfl, ← Int.add_assoc]
          exact Ev.step (fun k => by rw [impl_CountIn.l0, if_pos (by omega), if_pos (by omega), if_pos (by omega), rdN l j, if_pos (by omega), if_pos a2, if_pos a1, if_pos (by omega), hw2, hw3]) (ih (j + 1) (n + 1) (by omega) (by omega) (by omega))
        · have e : inPart s.length s (l.getD j 0) = false := decide_eq_false (fun hh => a3 hh.2.2)
          rw [e, if_neg (by simp), Int.zero_add]
          exact Ev.step (fun k => by rw [impl_CountIn.l0, if_pos (by omega), if_pos (by omega), if_pos (by omega), rdN l j, if_pos (by omega), if_pos a2, if_pos a1, if_neg (by omega), hw3]) (ih (j + 1) n (by omega) (by omega) (by omega))
      · have e : inPart s.length s (l.getD j 0) = false := decide_eq_false (fun hh => a2 hh.2.1)
        rw [e, if_neg (by simp), Int.zero_add]
        exact Ev.step (fun k => by rw [impl_CountIn.l0, if_pos (by omega), if_pos (by omega), if_pos (by omega), rdN l j, if_pos (by omega), if_neg a2, hw3]) (ih (j + 1) n (by omega) (by omega) (by omega))
    · have e : inPart s.length s (l.getD j 0) = false := decide_eq_false (fun hh => a1 hh.1)
      rw [e, if_neg (by simp), Int.zero_add]
      exact Ev.step (fun k => by rw [impl_CountIn.l0, if_pos (by omega), if_pos (by omega), if_pos (by omega), rdN l j, if_neg (by omega), hw3]) (ih (j + 1) n (by omega) (by omega) (by omega))

theorem iCountIn (w h : Int) (c : ByteArray) (v : Int) (l : List Int) (hl : l.length ≤ 1048576) : ∃ n, Ev (fun k => impl_CountIn.f k w h c v l) n ∧ CountIs w h c v l n := by
  obtain ⟨u, hu, hi⟩ := iHomeOf w h c v
  by_cases e : u = v
  · subst e
    by_cases h0 : u < 0
    · exact ⟨0, Ev.bind hu (Ev.congr (fun k => by rw [if_pos rfl, decide_eq_true h0]) (Ev.step (f := fun _ => some 0) (fun k => by rw [impl_CountIn.j0, if_pos rfl]) (Ev.now _))), .inl ⟨fun hh => by have := hh.2; omega, rfl⟩⟩
    · obtain ⟨s, hs, hA⟩ := iStepsFrom w h c [u] (by simp)
      have fu := (home_free hi (by omega)).1
      have hlen := (answer_lab hA fu).len
      have := iCount_l0 s l hl l.length 0 0 (Nat.zero_add _) (by omega) (by omega)
      rw [List.drop_zero, Int.zero_add, hlen, show ((0 : Nat) : Int) = 0 from rfl] at this
      exact ⟨_, Ev.bind hu (Ev.congr (fun k => by rw [if_pos rfl, decide_eq_false h0]) (Ev.step (fun k => by rw [impl_CountIn.j0, if_neg (by simp)]) (Ev.bind hs this))), .inr ⟨⟨hi, by omega⟩, s, hA, hlen, rfl⟩⟩
  · refine ⟨0, Ev.bind hu (Ev.congr (fun k => by rw [if_neg e]) (Ev.step (f := fun _ => some 0) (fun k => by rw [impl_CountIn.j0, if_pos rfl]) (Ev.now _))), .inl ⟨fun hh => e (hi.unique hh.1), rfl⟩⟩

/-! impl.areFree -/
theorem iAreFree (w h : Int) (c : ByteArray) (l : List Int) (hl : l.length ≤ 1048576) : ∃ b : Bool, Ev (fun k => impl_areFree.f k w h c l) b ∧ (b = true ↔ gridOk w h c = true ∧ ∀ z, z ∈ l → freeAt w h c z = true) := by
  have hg := iGridOk w h c
  cases g : gridOk w h c with
  | false =>
    rw [g] at hg
    exact ⟨false, Ev.bind hg (Ev.of_eq fun k => by rw [if_neg (by simp)]), by simp⟩
  | true =>
    rw [g] at hg
    have h0 := ii_free g l hl l.length 0 (Nat.zero_add _)
    rw [List.drop_zero, show ((0 : Nat) : Int) = 0 from rfl] at h0
    have hF : (∀ z, z ∈ l → freeAt w h c z = true) → Ev (fun k => slices_ContainsFunc_int_int.f k l w h c) false := h0.1
    have hT : (¬ ∀ z, z ∈ l → freeAt w h c z = true) → Ev (fun k => slices_ContainsFunc_int_int.f k l w h c) true := h0.2
    by_cases hall : ∀ z, z ∈ l → freeAt w h c z = true
    · exact ⟨true, Ev.bind hg (Ev.congr (fun k => by rw [if_pos rfl]) (Ev.bind (hF hall) (Ev.now _))), by simp; exact hall⟩
    · exact ⟨false, Ev.bind hg (Ev.congr (fun k => by rw [if_pos rfl]) (Ev.bind (hT hall) (Ev.now _))), by simp only [Bool.false_eq_true, true_and, false_iff]; exact hall⟩

/-! impl.StepsTo -/
theorem iStepsTo (w h : Int) (c : ByteArray) (a b : Int) : ∃ n, Ev (fun k => impl_StepsTo.f k w h c a b) n ∧ StepIs w h c a b n := by
  have fa := iFreeAt w h c a
  have fb := iFreeAt w h c b
  cases ha : freeAt w h c a with
  | false =>
    rw [ha] at fa
    exact ⟨-1, Ev.bind fa (Ev.of_eq fun k => by rw [if_neg (by simp)]), .inl ⟨fun hh => by rw [ha] at hh; exact absurd hh.1 (by simp), rfl⟩⟩
  | true =>
    rw [ha] at fa
    cases hb : freeAt w h c b with
    | false =>
      rw [hb] at fb
      exact ⟨-1, Ev.bind fa (Ev.congr (fun k => by rw [if_pos rfl]) (Ev.bind fb (Ev.of_eq fun k => by rw [if_neg (by simp)]))), .inl ⟨fun hh => by rw [hb] at hh; exact absurd hh.2 (by simp), rfl⟩⟩
    | true =>
      rw [hb] at fb
      obtain ⟨r, hr, hA⟩ := iStepsFrom w h c [a] (by simp)
      have fB := freeAt_iff.mp hb
      have hlen := (answer_lab hA ha).len
      refine ⟨rd r b, Ev.bind fa (Ev.congr (fun k => by rw [if_pos rfl]) (Ev.bind fb (Ev.congr (fun k => by rw [if_pos rfl]) (Ev.bind hr (Ev.of_eq fun k => ?_))))), .inr ⟨ha, hb, r, hA, rfl⟩⟩
      rw [if_pos fB.2.1, if_pos (by rw [hlen]; exact fB.2.2.1)]

/-! homes as a function; what Homes, CountIn and Enough answer -/
theorem hm_ex (w h : Int) (c : ByteArray) (a : Int) : ∃ v, HomeIs w h c a v := by
  obtain ⟨v, _, hv⟩ := iHomeOf w h c a
  exact ⟨v, hv⟩
noncomputable def hm (w h : Int) (c : ByteArray) (a : Int) : Int := Classical.choose (hm_ex w h c a)
theorem hm_is (w h : Int) (c : ByteArray) (a : Int) : HomeIs w h c a (hm w h c a) := Classical.choose_spec (hm_ex w h c a)
theorem iHome_ev (w h : Int) (c : ByteArray) (a : Int) : Ev (fun k => impl_HomeOf.f k w h c a) (hm w h c a) := by
  obtain ⟨v, h1, hv⟩ := iHomeOf w h c a
  rw [(hm_is w h c a).unique hv]
  exact h1

theorem hm_nonneg {w h : Int} {c : ByteArray} {a : Int} (ha : freeAt w h c a = true) : 0 ≤ hm w h c a := by
  rcases hm_is w h c a with ⟨e, _⟩ | ⟨_, r, _, _, h0, _⟩
  · rw [ha] at e; cases e
  · exact h0

/-- the home of a home is itself -/
theorem home_home {w h : Int} {c : ByteArray} {x v : Int} (p : HomeIs w h c x v) (h0 : 0 ≤ v) : HomeIs w h c v v := by
  obtain ⟨fx, fv, _, r, hr, rv, low⟩ := home_free p h0
  have q := hm_is w h c v
  have q0 := hm_nonneg fv
  generalize hm w h c v = u at q q0
  obtain ⟨_, _, uv, s, hs, su, low2⟩ := home_free q q0
  obtain ⟨_, cs⟩ := conn_same fx fv hr hs rv
  have cu : Cell c.size u := ⟨q0, by have := (freeCell fv).2; omega⟩
  have ru := (cs u cu).2 su
  rcases Int.lt_or_le u v with a | a
  · have := low u q0 a; omega
  · obtain rfl : u = v := by omega
    exact q

/-- two free cells have one home just when one's labels reach the other -/
theorem home_same {w h : Int} {c : ByteArray} {a b : Int} {r : List Int} (fa : freeAt w h c a = true) (fb : freeAt w h c b = true) (hr : Answer w h c [a] r) : hm w h c a = hm w h c b ↔ 0 ≤ rd r b := by
  have h0 := hm_nonneg fa
  have ha := hm_is w h c a
  have hv := home_home ha h0
  obtain ⟨_, fv, _, _⟩ := home_free ha h0
  obtain ⟨_, _, _, s, hs, _, _⟩ := home_free hv h0
  have i1 := home_iff hv h0 hs (freeCell fa) ha
  have i2 := home_iff hv h0 hs (freeCell fb) (hm_is w h c b)
  have sa := i1.1 rfl
  obtain ⟨_, cs⟩ := conn_same fv fa hs hr sa
  have i3 := cs b (freeCell fb)
  constructor
  · intro e; exact i3.1 (i2.1 e.symm)
  · intro e; exact (i2.2 (i3.2 e)).symm

noncomputable def homesL (w h : Int) (c : ByteArray) : List Int := (freeCells w h c).filter (fun z => decide (hm w h c z = z))

theorem iHomes_l0 (w h : Int) (c : ByteArray) (L : List Int) (hL : L.length ≤ 1048576) (m : Nat) : ∀ (i : Nat) (acc : List Int), i + m = L.length → acc.length ≤ i → Ev (fun k => impl_Homes.l0 k acc L (L.length : Int) i w h c) (acc ++ (L.drop i).filter (fun z => decide (hm w h c z = z))) := by
  induction m with
  | zero =>
    intro i acc hi ha
    rw [List.drop_eq_nil_of_le (by omega), List.filter_nil, List.append_nil]
    exact Ev.step (f := fun _ => some acc) (fun k => by rw [impl_Homes.l0, if_neg (by omega)]) (Ev.now _)
  | succ m ih =>
    intro i acc hi ha
    have hw3 : wrap64 ((i : Int) + 1) = ((i + 1 : Nat) : Int) := by rw [w64 (by omega) (by omega)]; omega
    have e : rd L (i : Int) = L.getD i 0 := by unfold rd; rw [Int.toNat_natCast]
    have hh := iHome_ev w h c (L.getD i 0)
    rw [drop_cons L i 0 (by omega), List.filter_cons]
    by_cases hv : hm w h c (L.getD i 0) = L.getD i 0
    · have r2 := ih (i + 1) (acc ++ [L.getD i 0]) (by omega) (by simp; omega)
      rw [List.append_assoc] at r2
      rw [decide_eq_true hv, if_pos rfl]
      exact Ev.step (fun k => by rw [impl_Homes.l0, if_pos (by omega), if_pos (by omega), if_pos (by omega), e]) (Ev.bind hh (Ev.congr (fun k => by rw [if_pos hv, if_pos (by omega), hw3]) r2))
    · have r2 := ih (i + 1) acc (by omega) (by omega)
      rw [decide_eq_false hv, if_neg (by simp)]
      exact Ev.step (fun k => by rw [impl_Homes.l0, if_pos (by omega), if_pos (by omega), if_pos (by omega), e]) (Ev.bind hh (Ev.congr (fun k => by rw [if_neg hv, hw3]) r2))

theorem iHomes_ev (w h : Int) (c : ByteArray) : Ev (fun k => impl_Homes.f k w h c) (homesL w h c) := by
  have hl := freeCells_len w h c
  have h0 := iHomes_l0 w h c (freeCells w h c) (by omega) (freeCells w h c).length 0 [] (Nat.zero_add _) (Nat.le_refl _)
  rw [List.drop_zero, List.nil_append, show ((0 : Nat) : Int) = 0 from rfl] at h0
  exact Ev.bind (iFreeCells w h c) h0

/-- how many of a list's free cells have the home v -/
theorem iCount_ev (w h : Int) (c : ByteArray) (v : Int) (l : List Int) (hl : l.length ≤ 1048576) (hf : ∀ z, z ∈ l → freeAt w h c z = true) (hv : hm w h c v = v) (h0 : 0 ≤ v) : Ev (fun k => impl_CountIn.f k w h c v l) (l.countP (fun z => decide (hm w h c z = v)) : Int) := by
  have hvv : HomeIs w h c v v := by have := hm_is w h c v; rw [hv] at this; exact this
  obtain ⟨n, h1, h2⟩ := iCountIn w h c v l hl
  rcases h2 with ⟨p, _⟩ | ⟨_, s, hs, hsl, hn⟩
  · exact absurd ⟨hvv, h0⟩ p
  · have e : l.countP (inPart c.size s) = l.countP (fun z => decide (hm w h c z = v)) := by
      refine List.countP_congr (fun z hz => ?_)
      have fz := hf z hz
      have cz := freeCell fz
      have hi := home_iff hvv h0 hs cz (hm_is w h c z)
      unfold inPart
      rw [decide_eq_true_iff, decide_eq_true_iff]
      exact ⟨fun hh => hi.2 hh.2.2, fun hh => ⟨cz.1, cz.2, hi.1 hh⟩⟩
    rw [← e, ← hn]
    exact h1

theorem enough_l0 (w h : Int) (c : ByteArray) (s d L : List Int) (hL : L.length ≤ 1048576) (hc : ∀ v, ∃ x y : Int, Ev (fun k => impl_CountIn.f k w h c v d) x ∧ Ev (fun k => impl_CountIn.f k w h c v s) y ∧ ¬ x > y) (m : Nat) : ∀ j : Nat, j + m = L.length → Ev (fun k => impl_Enough.l0 k s d L (L.length : Int) j w h c) true := by
  induction m with
  | zero =>
    intro j hj
    exact Ev.step (f := fun _ => some true) (fun k => by rw [impl_Enough.l0, if_neg (by omega)]) (Ev.now _)
  | succ m ih =>
    intro j hj
    have hw3 : wrap64 ((j : Int) + 1) = ((j + 1 : Nat) : Int) := by rw [w64 (by omega) (by omega)]; omega
    obtain ⟨x, y, x2, y2, hq⟩ := hc (rd L (j : Int))
    refine Ev.step (fun k => by rw [impl_Enough.l0, if_pos (by omega), if_pos (by omega), if_pos (by omega)]) (Ev.bind x2 ?_)
    refine Ev.bind y2 ?_
    exact Ev.congr (fun k => by rw [if_neg hq, hw3]) (ih (j + 1) (by omega))

theorem iEnough_true (w h : Int) (c : ByteArray) (g : gridOk w h c = true) (s d : List Int) (hs : s.length ≤ 1048576) (hd : d.length ≤ 1048576) (fs : ∀ z, z ∈ s → freeAt w h c z = true) (fd : ∀ z, z ∈ d → freeAt w h c z = true) (hc : ∀ v, ∃ x y : Int, Ev (fun k => impl_CountIn.f k w h c v d) x ∧ Ev (fun k => impl_CountIn.f k w h c v s) y ∧ ¬ x > y) : Ev (fun k => impl_Enough.f k w h c s d) true := by
  obtain ⟨p, p1, p2⟩ := iAreFree w h c s hs
  obtain ⟨q, q1, q2⟩ := iAreFree w h c d hd
  rw [p2.2 ⟨g, fs⟩] at p1
  rw [q2.2 ⟨g, fd⟩] at q1
  have hlen : (homesL w h c).length ≤ 1048576 := by
    have a := freeCells_len w h c
    have b := List.length_filter_le (fun z => decide (hm w h c z = z)) (freeCells w h c)
    unfold homesL
    omega
  have b2 := enough_l0 w h c s d (homesL w h c) hlen hc (homesL w h c).length 0 (Nat.zero_add _)
  rw [show ((0 : Nat) : Int) = 0 from rfl] at b2
  exact Ev.bind p1 (Ev.congr (fun k => by rw [if_pos rfl]) (Ev.bind q1 (Ev.step (fun k => by rw [impl_Enough.j0, if_neg (by simp)]) (Ev.bind (iHomes_ev w h c) b2))))

theorem enough_same (w h : Int) (c : ByteArray) (l : List Int) (hl : l.length ≤ 1048576) : ∀ v, ∃ x y : Int, Ev (fun k => impl_CountIn.f k w h c v l) x ∧ Ev (fun k => impl_CountIn.f k w h c v l) y ∧ ¬ x > y := fun v => by
  obtain ⟨n, h1, _⟩ := iCountIn w h c v l hl
  exact ⟨n, n, h1, h1, by omega⟩

theorem enough_nil (w h : Int) (c : ByteArray) (l : List Int) (hl : l.length ≤ 1048576) : ∀ v, ∃ x y : Int, Ev (fun k => impl_CountIn.f k w h c v []) x ∧ Ev (fun k => impl_CountIn.f k w h c v l) y ∧ ¬ x > y := fun v => by
  obtain ⟨n, h1, h2⟩ := iCountIn w h c v [] (by simp)
  obtain ⟨m, h3, h4⟩ := iCountIn w h c v l hl
  refine ⟨n, m, h1, h3, ?_⟩
  have e1 : n = 0 := by
    rcases h2 with ⟨_, e⟩ | ⟨_, s, _, _, e⟩
    · exact e
    · rw [e]; rfl
  have e2 : 0 ≤ m := by
    rcases h4 with ⟨_, e⟩ | ⟨_, s, _, _, e⟩
    · omega
    · omega
  omega

theorem countP_or {p q r : Int → Bool} (l : List Int) (h1 : ∀ x, r x = (p x || q x)) (h2 : ∀ x, p x = true → q x = false) : l.countP r = l.countP p + l.countP q := by
  induction l with
  | nil => rfl
  | cons x l ih =>
    rw [List.countP_cons, List.countP_cons, List.countP_cons, ih, h1]
    have := h2 x
    cases hp : p x with
    | true => rw [this hp]; simp; omega
    | false => cases q x <;> simp <;> omega

/-- the parts' counts, summed -/
noncomputable def tot (w h : Int) (c : ByteArray) (l : List Int) : List Int → Int
  | [] => 0
  | v :: H => (l.countP (fun z => decide (hm w h c z = v)) : Int) + tot w h c l H

theorem tot_eq (w h : Int) (c : ByteArray) (l : List Int) (H : List Int) (hn : H.Nodup) : tot w h c l H = (l.countP (fun z => decide (hm w h c z ∈ H)) : Int) := by
  induction H with
  | nil =>
    rw [tot, show l.countP (fun z => decide (hm w h c z ∈ ([] : List Int))) = 0 by rw [List.countP_eq_zero]; simp]
    rfl
  | cons v H ih =>
    rw [List.nodup_cons] at hn
    rw [tot, ih hn.2, countP_or (p := fun z => decide (hm w h c z = v)) (q := fun z => decide (hm w h c z ∈ H)) (r := fun z => decide (hm w h c z ∈ v :: H)) l (fun x => by
      rw [Bool.eq_iff_iff, Bool.or_eq_true, decide_eq_true_iff, decide_eq_true_iff, decide_eq_true_iff, List.mem_cons]) (fun x hx => decide_eq_false (by rw [of_decide_eq_true hx]; exact hn.1))]
    omega

theorem tot_bound (w h : Int) (c : ByteArray) (l : List Int) (hl : l.length ≤ 64) (H : List Int) : 0 ≤ tot w h c l H ∧ tot w h c l H ≤ 64 * H.length := by
  induction H with
  | nil => exact ⟨Int.le_refl _, by simp [tot]⟩
  | cons v H ih =>
    have a := List.countP_le_length (p := fun z => decide (hm w h c z = v)) (l := l)
    rw [tot, List.length_cons]
    omega

end Go.Proofs.Ytabepbkolmimlaa.QFnHomes

/- What the functions that the law FnSteps reaches compute: StepsFromI, StepsToI, WayToI, AroundIF, Contains, BesideI, HomeIs, Conn, Multi. -/
import Derived.Test.YtabepbkolmimlaaPFnStepsx
import Derived.Test.YtabepbkolmimlaaMBase
import Derived.Test.YtabepbkolmimlaaMDraw
import Derived.Test.YtabepbkolmimlaaMGrid
import Derived.Test.YtabepbkolmimlaaMLists
import Derived.Test.YtabepbkolmimlaaMSteps
import Derived.Test.YtabepbkolmimlaaMScan
import Derived.Test.YtabepbkolmimlaaQFnStepsAll0
namespace Go.Proofs.Ytabepbkolmimlaa.QFnSteps
open Go.RowKit Go.Proofs.Ytabepbkolmimlaa.PFnSteps Go.Proofs.YtabepbkolmimlaaW.PrintWords Go.Proofs.YtabepbkolmimlaaW.PrintLast Go.Proofs.YtabepbkolmimlaaW.PrintMore Go.Proofs.Ytabepbkolmimlaa.MBase Go.Proofs.Ytabepbkolmimlaa.MDraw Go.Proofs.Ytabepbkolmimlaa.MGrid Go.Proofs.Ytabepbkolmimlaa.MLists Go.Proofs.Ytabepbkolmimlaa.MSteps Go.Proofs.Ytabepbkolmimlaa.MScan
set_option linter.unusedVariables false
set_option linter.unusedSimpArgs false

/-! impl.StepsFrom -/
section
variable {w h : Int} {c : ByteArray} {S : Int → Prop}
theorem ii_l2 (g : gridOk w h c = true) (i : Nat)
    (next : ∀ d Q, Que c.size (around w h c) S (i + 1) d Q → ∃ r, Ev (fun k => impl_StepsFrom.l1 k d Q ((i + 1 : Nat) : Int) w h c) r ∧ Lab c.size (around w h c) S r) (x : Int) (hx : Cell c.size x) (m : Nat) :
    ∀ (j : Nat) (d Q : List Int), j + m = (around w h c x).length → i < Q.length → Q.getD i 0 = x → Que c.size (around w h c) S i d Q → Seen (around w h c) i j d Q →
      ∃ r, Ev (fun k => impl_StepsFrom.l2 k d Q i (around w h c x) ((around w h c x).length : Int) j w h c) r ∧ Lab c.size (around w h c) S r := by
  have hA : ∀ x, Cell c.size x → ∀ y, y ∈ around w h c x → Cell c.size y := fun x _ y hy => around_cell hy
  have hc := (gridOk_size g).2
  have hlen := around_len w h c x
  have x0 := hx.1
  have x1 := hx.2
  induction m with
  | zero =>
    intro j d Q hj hi hQ q hs
    have hlq := q.len_le
    have hw1 : wrap64 ((i : Int) + 1) = ((i + 1 : Nat) : Int) := by rw [w64 (by omega) (by omega)]; omega
    obtain ⟨r, hr, hl⟩ := next d Q (q.next hA hi hs (by rw [hQ]; omega))
    exact ⟨r, Ev.step (fun k => by rw [impl_StepsFrom.l2, if_neg (by omega), hw1]) hr, hl⟩
  | succ m ih =>
    intro j d Q hj hi hQ q hs
    have hlq := q.len_le
    have hjl : j < (around w h c x).length := by omega
    have hyA := getD_mem hjl
    have hy := around_cell hyA
    have hd := q.len
    have hw3 : wrap64 ((j : Int) + 1) = ((j + 1 : Nat) : Int) := by rw [w64 (by omega) (by omega)]; omega
    have y0 := hy.1
    have y1 := hy.2
    have hin := q.inQ i hi
    rw [hQ] at hin
    have hsm := q.toBase.small x hx
    have hw2 : wrap64 (rd d x + 1) = rd d x + 1 := w64 (by omega) (by omega)
    by_cases hb : rd d ((around w h c x).getD j 0) < 0
    · have q' := q.put hA hi (y := (around w h c x).getD j 0) (by rw [hQ]; exact hyA) hb
      rw [hQ] at q'
      have hQ' : (Q ++ [(around w h c x).getD j 0]).getD i 0 = x := by rw [getD_push, if_pos hi]; exact hQ
      have hs' : Seen (around w h c) i (j + 1) (d.set ((around w h c x).getD j 0).toNat (rd d x + 1)) (Q ++ [(around w h c x).getD j 0]) := by
        intro z hz
        rw [hQ'] at hz
        rcases take_succ_mem hjl hz with h1 | h1
        · have h2 := hs z (by rw [hQ]; exact h1)
          rw [q.toBase.keep hy hb (around_cell (List.mem_of_mem_take h1)) h2]; exact h2
        · rw [h1, rd_set q.len hy hy, if_pos rfl]; omega
      obtain ⟨r, hr, hl⟩ := ih (j + 1) _ _ (by omega) (by simp; omega) hQ' q' hs'
      exact ⟨r, Ev.step (fun k => by rw [impl_StepsFrom.l2, if_pos (by omega), if_pos (by omega), if_pos (by omega), rdN, if_pos y0, if_pos (by rw [hd]; exact y1), if_pos hb, if_pos (by omega), if_pos (by omega), rdN Q i, hQ, if_pos x0, if_pos (by rw [hd]; exact x1), if_pos (by omega), hw2, hw3]) hr, hl⟩
    · have hs' : Seen (around w h c) i (j + 1) d Q := by
        intro z hz
        rw [hQ] at hz
        rcases take_succ_mem hjl hz with h1 | h1
        · exact hs z (by rw [hQ]; exact h1)
        · rw [h1]; omega
      obtain ⟨r, hr, hl⟩ := ih (j + 1) d Q (by omega) hi hQ q hs'
      exact ⟨r, Ev.step (fun k => by rw [impl_StepsFrom.l2, if_pos (by omega), if_pos (by omega), if_pos (by omega), rdN, if_pos y0, if_pos (by rw [hd]; exact y1), if_neg hb, hw3]) hr, hl⟩

theorem ii_l1 (g : gridOk w h c = true) (m : Nat) : ∀ (i : Nat) (d Q : List Int), i + m = c.size → Que c.size (around w h c) S i d Q → ∃ r, Ev (fun k => impl_StepsFrom.l1 k d Q i w h c) r ∧ Lab c.size (around w h c) S r := by
  have hc := (gridOk_size g).2
  induction m with
  | zero =>
    intro i d Q hi q
    have hlq := q.len_le
    exact ⟨d, Ev.step (f := fun _ => some d) (fun k => by rw [impl_StepsFrom.l1, if_neg (by omega)]) (Ev.now _), q.lab (by omega)⟩
  | succ m ih =>
    intro i d Q hi q
    by_cases hq : i < Q.length
    · have hx := (q.inQ i hq).1
      have x0 := hx.1
      have x1 := hx.2
      obtain ⟨r, hr, hl⟩ := ii_l2 g i (fun d' Q' q' => ih (i + 1) d' Q' (by omega) q') (Q.getD i 0) hx (around w h c (Q.getD i 0)).length 0 d Q (Nat.zero_add _) hq rfl q (fun y hy => by simp at hy)
      exact ⟨r, Ev.step (fun k => by rw [impl_StepsFrom.l1, if_pos (by omega), if_pos (by omega), rdN]) (Ev.bind (iaround_any g (Q.getD i 0) (by omega) (by omega)) hr), hl⟩
    · exact ⟨d, Ev.step (f := fun _ => some d) (fun k => by rw [impl_StepsFrom.l1, if_neg (by omega)]) (Ev.now _), q.lab (by omega)⟩

/-- the sources are laid into the queue -/
structure Src (n : Nat) (l : List Int) (i : Nat) (d Q : List Int) : Prop where
  len : d.length = n
  two : ∀ z, Cell n z → rd d z = 0 ∨ rd d z = -1
  src : ∀ z, Cell n z → (rd d z = 0 ↔ z ∈ l.take i)
  inQ : ∀ a : Nat, a < Q.length → Cell n (Q.getD a 0) ∧ rd d (Q.getD a 0) = 0
  all : ∀ z, Cell n z → rd d z = 0 → ∃ a : Nat, a < Q.length ∧ Q.getD a 0 = z
  room : bare n d + Q.length ≤ n

theorem Src.que {n : Nat} {A : Int → List Int} {l : List Int} {i : Nat} {d Q : List Int} (s : Src n l i d Q) (hi : l.length ≤ i) : Que n A (fun z => z ∈ l) 0 d Q where
  len := s.len
  lo := fun z hz => by rcases s.two z hz with h | h <;> omega
  src := fun z hz => by have := s.src z hz; rwa [List.take_of_length_le hi] at this
  pred := fun z hz h => by rcases s.two z hz with h | h <;> omega
  inQ := fun a ha => ⟨(s.inQ a ha).1, by rw [(s.inQ a ha).2]; exact Int.le_refl _⟩
  all := fun z hz h => s.all z hz (by rcases s.two z hz with h | h <;> omega)
  mono := fun a b hab hb => by rw [(s.inQ a (by omega)).2, (s.inQ b hb).2]; exact Int.le_refl _
  done := fun a ha => by omega
  room := s.room
  near := fun h0 b hb => by rw [(s.inQ b hb).2, (s.inQ 0 h0).2]; omega

theorem mem_take_succ {l : List Int} {i : Nat} (hi : i < l.length) (z : Int) : z ∈ l.take (i + 1) ↔ z ∈ l.take i ∨ z = l.getD i 0 := by
  rw [List.take_add_one, List.getElem?_eq_getElem hi, List.mem_append, List.getD_eq_getElem?_getD, List.getElem?_eq_getElem hi]
  simp

theorem Src.put {n : Nat} {l : List Int} {i : Nat} {d Q : List Int} (s : Src n l i d Q) (hi : i < l.length) (hy : Cell n (l.getD i 0)) (hb : rd d (l.getD i 0) < 0) : Src n l (i + 1) (d.set (l.getD i 0).toNat 0) (Q ++ [l.getD i 0]) := by
  have hmem := fun z => mem_take_succ hi z
  generalize l.getD i 0 = y at *
  have hr := fun z hz => rd_set s.len (x := z) hz hy 0
  have gl : ∀ a : Nat, a < Q.length → (Q ++ [y]).getD a 0 = Q.getD a 0 := fun a ha => by rw [getD_push, if_pos ha]
  have ge : (Q ++ [y]).getD Q.length 0 = y := by rw [getD_push, if_neg (by omega), if_pos rfl]
  have hl : (Q ++ [y]).length = Q.length + 1 := by simp
  have hbare := bare_set s.len hy hb (v := 0) (by omega)
  have hroom := s.room
  refine ⟨by rw [List.length_set]; exact s.len, ?_, ?_, ?_, ?_, by omega⟩
  · intro z hz; rw [hr z hz]; split
    · exact .inl rfl
    · exact s.two z hz
  · intro z hz; rw [hr z hz, hmem]; split
    · rename_i e; exact ⟨fun _ => .inr e, fun _ => rfl⟩
    · rename_i e
      rw [s.src z hz]
      exact ⟨fun a => .inl a, fun a => a.resolve_right e⟩
  · intro a ha
    by_cases h1 : a < Q.length
    · rw [gl a h1]
      have := s.inQ a h1
      refine ⟨this.1, ?_⟩
      rw [hr _ this.1]; split
      · rfl
      · exact this.2
    · rw [show a = Q.length by omega, ge]
      exact ⟨hy, by rw [hr y hy, if_pos rfl]⟩
  · intro z hz h0
    by_cases e : z = y
    · exact ⟨Q.length, by omega, by rw [ge, e]⟩
    · rw [hr z hz, if_neg e] at h0
      obtain ⟨a, ha, ea⟩ := s.all z hz h0
      exact ⟨a, by omega, by rw [gl a ha]; exact ea⟩

theorem Src.skip {n : Nat} {l : List Int} {i : Nat} {d Q : List Int} (s : Src n l i d Q) (hi : i < l.length) (hy : Cell n (l.getD i 0)) (hb : ¬ rd d (l.getD i 0) < 0) : Src n l (i + 1) d Q := by
  refine { s with src := ?_ }
  intro z hz
  rw [mem_take_succ hi, s.src z hz]
  refine ⟨fun a => .inl a, fun a => a.elim id (fun e => ?_)⟩
  rw [e]
  rcases s.two _ hy with h1 | h1
  · exact (s.src _ hy).1 h1
  · omega

theorem ii_l0 (g : gridOk w h c = true) (l : List Int) (hl : l.length ≤ 1048576) (hall : ∀ z, z ∈ l → freeAt w h c z = true) (m : Nat) : ∀ (i : Nat) (d Q : List Int), i + m = l.length → Src c.size l i d Q → ∃ r, Ev (fun k => impl_StepsFrom.l0 k d Q l (l.length : Int) i w h c) r ∧ Lab c.size (around w h c) (fun z => z ∈ l) r := by
  have hc := (gridOk_size g).2
  induction m with
  | zero =>
    intro i d Q hi s
    obtain ⟨r, hr, hlab⟩ := ii_l1 g c.size 0 d Q (Nat.zero_add _) (s.que (by omega))
    exact ⟨r, Ev.step (fun k => by rw [impl_StepsFrom.l0, if_neg (by omega)]; rfl) hr, hlab⟩
  | succ m ih =>
    intro i d Q hi s
    have hil : i < l.length := by omega
    have hf := freeAt_iff.mp (hall _ (getD_mem hil))
    have hy : Cell c.size (l.getD i 0) := ⟨hf.2.1, hf.2.2.1⟩
    have y0 := hy.1
    have y1 := hy.2
    have hd := s.len
    have hb0 := bare_nonneg c.size d
    have hroom := s.room
    have hw3 : wrap64 ((i : Int) + 1) = ((i + 1 : Nat) : Int) := by rw [w64 (by omega) (by omega)]; omega
    by_cases hb : rd d (l.getD i 0) < 0
    · obtain ⟨r, hr, hlab⟩ := ih (i + 1) _ _ (by omega) (s.put hil hy hb)
      exact ⟨r, Ev.step (fun k => by rw [impl_StepsFrom.l0, if_pos (by omega), if_pos (by omega), if_pos (by omega), rdN, if_pos y0, if_pos (by rw [hd]; exact y1), if_pos hb, if_pos (by omega), hw3]) hr, hlab⟩
    · obtain ⟨r, hr, hlab⟩ := ih (i + 1) d Q (by omega) (s.skip hil hy hb)
      exact ⟨r, Ev.step (fun k => by rw [impl_StepsFrom.l0, if_pos (by omega), if_pos (by omega), if_pos (by omega), rdN, if_pos y0, if_pos (by rw [hd]; exact y1), if_neg hb, hw3]) hr, hlab⟩
end

theorem ii_free {w h : Int} {c : ByteArray} (g : gridOk w h c = true) (l : List Int) (hl : l.length ≤ 1048576) (m : Nat) : ∀ i : Nat, i + m = l.length → ((∀ z, z ∈ l.drop i → freeAt w h c z = true) → Ev (fun k => slices_ContainsFunc_int_int.l0 k (l.length : Int) i l w h c) false) ∧ ((¬ ∀ z, z ∈ l.drop i → freeAt w h c z = true) → Ev (fun k => slices_ContainsFunc_int_int.l0 k (l.length : Int) i l w h c) true) := by
  induction m with
  | zero =>
    intro i hi
    have e : l.drop i = [] := List.drop_eq_nil_of_le (by omega)
    rw [e]
    refine ⟨fun _ => Ev.step (f := fun _ => some false) (fun k => by rw [slices_ContainsFunc_int_int.l0, if_neg (by omega)]) (Ev.now _), fun hn => absurd (fun z hz => by cases hz) hn⟩
  | succ m ih =>
    intro i hi
    have hw3 : wrap64 ((i : Int) + 1) = ((i + 1 : Nat) : Int) := by rw [w64 (by omega) (by omega)]; omega
    rw [drop_cons l i 0 (by omega)]
    have ih' := ih (i + 1) (by omega)
    cases hq : freeAt w h c (l.getD i 0) with
    | true =>
      refine ⟨fun hall => ?_, fun hn => ?_⟩
      · exact Ev.step (fun k => by rw [slices_ContainsFunc_int_int.l0, if_pos (by omega), if_pos (by omega), if_pos (by omega), isFree_eq g, rdN, hq, Option.bind_some, if_pos rfl, hw3]) (ih'.1 (fun z hz => hall z (List.mem_cons_of_mem _ hz)))
      · exact Ev.step (fun k => by rw [slices_ContainsFunc_int_int.l0, if_pos (by omega), if_pos (by omega), if_pos (by omega), isFree_eq g, rdN, hq, Option.bind_some, if_pos rfl, hw3]) (ih'.2 (fun hh => hn (fun z hz => by
          rcases List.mem_cons.1 hz with e | e
          · rw [e]; exact hq
          · exact hh z e)))
    | false =>
      refine ⟨fun hall => ?_, fun hn => ?_⟩
      · have := hall _ (List.mem_cons_self ..)
        rw [hq] at this; cases this
      · exact Ev.step (f := fun _ => some true) (fun k => by rw [slices_ContainsFunc_int_int.l0, if_pos (by omega), if_pos (by omega), if_pos (by omega), isFree_eq g, rdN, hq, Option.bind_some, if_neg (by simp)]) (Ev.now _)

theorem ii_rep (x1 : Nat) (v : Int) (hx : x1 ≤ 64) (m : Nat) : ∀ i : Nat, i + m = x1 → Ev (fun k => slices_Repeat_int_int.l0 k x1 v (List.replicate i v) i) (List.replicate x1 v) := by
  induction m with
  | zero =>
    intro i hi
    obtain rfl : i = x1 := by omega
    exact Ev.step (f := fun _ => some (List.replicate i v)) (fun k => by rw [slices_Repeat_int_int.l0, if_neg (by omega)]) (Ev.now _)
  | succ m ih =>
    intro i hi
    have hw3 : wrap64 ((i : Int) + 1) = ((i + 1 : Nat) : Int) := by rw [w64 (by omega) (by omega)]; omega
    exact Ev.step (fun k => by rw [slices_Repeat_int_int.l0, if_pos (by omega), if_pos (by rw [List.length_replicate]; omega), hw3, ← List.replicate_succ']) (ih (i + 1) (by omega))

theorem iRepeat (v : Int) (n : Nat) (hn : n ≤ 64) : Ev (fun k => slices_Repeat_int_int.f k [v] n) (List.replicate n v) := by
  have e : wrap64 (wrap64 ((([v] : List Int).length : Int) + (([v] : List Int).length : Int)) - 2) = 0 := by rw [List.length_singleton]; unfold wrap64; omega
  refine Ev.congr (fun k => by unfold slices_Repeat_int_int.f; rw [e, if_pos (by omega), if_pos (by simp)]; rfl) (ii_rep n v hn n 0 (Nat.zero_add _))

theorem src_start (n : Nat) (l : List Int) : Src n l 0 (List.replicate n (-1)) [] := by
  have hr : ∀ z, Cell n z → rd (List.replicate n (-1)) z = -1 := fun z hz => by
    have := hz.1; have := hz.2
    unfold rd
    rw [List.getD_eq_getElem?_getD, List.getElem?_replicate, if_pos (by omega)]
    rfl
  refine ⟨by simp, fun z hz => .inr (hr z hz), fun z hz => by rw [hr z hz]; simp, fun a ha => by simp at ha, fun z hz h => by rw [hr z hz] at h; omega, ?_⟩
  have := bare_le n (List.replicate n (-1))
  simp only [List.length_nil]
  omega

theorem iStepsFrom (w h : Int) (c : ByteArray) (l : List Int) (hl : l.length ≤ 1048576) : ∃ r, Ev (fun k => impl_StepsFrom.f k w h c l) r ∧ Answer w h c l r := by
  have hg := iGridOk w h c
  have bad : Ev (fun k => impl_StepsFrom.j0 k l true w h c) [] := Ev.step (f := fun _ => some []) (fun k => by rw [impl_StepsFrom.j0, if_pos rfl]) (Ev.now _)
  cases g : gridOk w h c with
  | false =>
    rw [g] at hg
    exact ⟨[], Ev.bind hg (Ev.congr (fun k => by rw [if_neg (by simp)]) bad), .inr ⟨fun hh => absurd (hh.1.symm.trans g) (by simp), rfl⟩⟩
  | true =>
    rw [g] at hg
    have hc := (gridOk_size g).2
    have h0 := ii_free g l hl l.length 0 (Nat.zero_add _)
    rw [List.drop_zero, show ((0 : Nat) : Int) = 0 from rfl] at h0
    have hF : (∀ z, z ∈ l → freeAt w h c z = true) → Ev (fun k => slices_ContainsFunc_int_int.f k l w h c) false := h0.1
    have hT : (¬ ∀ z, z ∈ l → freeAt w h c z = true) → Ev (fun k => slices_ContainsFunc_int_int.f k l w h c) true := h0.2
    by_cases hall : ∀ z, z ∈ l → freeAt w h c z = true
    · obtain ⟨r, hr, hlab⟩ := ii_l0 g l hl hall l.length 0 _ _ (Nat.zero_add _) (src_start c.size l)
      refine ⟨r, Ev.bind hg (Ev.congr (fun k => by rw [if_pos rfl]) (Ev.bind (hF hall) ?_)), .inl ⟨g, hall, hlab⟩⟩
      exact Ev.step (fun k => by rw [impl_StepsFrom.j0, if_neg (by simp)]) (Ev.bind (iRepeat (-1) c.size hc) hr)
    · exact ⟨[], Ev.bind hg (Ev.congr (fun k => by rw [if_pos rfl]) (Ev.bind (hT hall) bad)), .inr ⟨fun hh => hall hh.2, rfl⟩⟩

/-! impl.StepsTo -/
theorem iStepsTo (w h : Int) (c : ByteArray) (a b : Int) : ∃ n, Ev (fun k => impl_StepsTo.f k w h c a b) n ∧ StepIs w h c a b n := by
  have fa := iFreeAt w h c a
  have fb := iFreeAt w h c b
  cases ha : freeAt w h c a with
  | false =>
    rw [ha] at fa
    exact ⟨-1, Ev.bind fa (Ev.of_eq fun k => by rw [if_neg (by simp)]), .inl ⟨fun hh => by rw [ha] at hh; exact absurd hh.1 (by simp), rfl⟩⟩
  | true =>
    rw [ha] at fa
    cases hb : freeAt w h c b with
    | false =>
      rw [hb] at fb
      exact ⟨-1, Ev.bind fa (Ev.congr (fun k => by rw [if_pos rfl]) (Ev.bind fb (Ev.of_eq fun k => by rw [if_neg (by simp)]))), .inl ⟨fun hh => by rw [hb] at hh; exact absurd hh.2 (by simp), rfl⟩⟩
    | true =>
      rw [hb] at fb
      obtain ⟨r, hr, hA⟩ := iStepsFrom w h c [a] (by simp)
      have fB := freeAt_iff.mp hb
      have hlen := (answer_lab hA ha).len
      refine ⟨rd r b, Ev.bind fa (Ev.congr (fun k => by rw [if_pos rfl]) (Ev.bind fb (Ev.congr (fun k => by rw [if_pos rfl]) (Ev.bind hr (Ev.of_eq fun k => ?_))))), .inr ⟨ha, hb, r, hA, rfl⟩⟩
      rw [if_pos fB.2.1, if_pos (by rw [hlen]; exact fB.2.2.1)]

/-! impl.WayTo -/
section
variable {w h : Int} {c : ByteArray} {b : Int} {far : List Int}
theorem iWay_l1 (A : List Int) (hA : ∀ y, y ∈ A → 0 ≤ y ∧ y < far.length) (hl : A.length ≤ 4) (a : Int) (ha0 : 0 ≤ a) (ha1 : a < far.length) (n : Nat) (hn : n ≤ 64) (near : ∀ y, y ∈ A → (rd far y < rd far a ↔ rd far y = n)) (t : Int) (acc : List Int) (hacc : acc.length ≤ 1000) (b : Int) (r : List Int) (next : Ev (fun k => impl_WayTo.l0 k t far (acc ++ [b]) b w h c) r) (m : Nat) :
    ∀ j : Nat, j + m = A.length → (A.drop j).find? (fun y => decide (rd far y = n)) = some b → Ev (fun k => impl_WayTo.l1 k t far acc a A (A.length : Int) j w h c) r := by
  induction m with
  | zero =>
    intro j hj hf
    rw [List.drop_eq_nil_of_le (by omega)] at hf
    cases hf
  | succ m ih =>
    intro j hj hf
    have hw3 : wrap64 ((j : Int) + 1) = ((j + 1 : Nat) : Int) := by rw [w64 (by omega) (by omega)]; omega
    have hm := getD_mem (xs := A) (j := j) (by omega)
    have hy := hA _ hm
    have hb := near _ hm
    rw [drop_cons A j 0 (by omega), List.find?_cons] at hf
    by_cases hq : rd far (A.getD j 0) = n
    · rw [decide_eq_true hq] at hf
      obtain rfl := Option.some.inj hf
      exact Ev.step (fun k => by rw [impl_WayTo.l1, if_pos (by omega), if_pos (by omega), if_pos (by omega), rdN A j, if_pos hy.1, if_pos hy.2, if_pos ha0, if_pos ha1, if_pos (hb.mpr hq), if_pos (by omega)]) next
    · rw [decide_eq_false hq] at hf
      exact Ev.step (fun k => by rw [impl_WayTo.l1, if_pos (by omega), if_pos (by omega), if_pos (by omega), rdN A j, if_pos hy.1, if_pos hy.2, if_pos ha0, if_pos ha1, if_neg (fun hh => hq (hb.mp hh)), hw3]) (ih (j + 1) (by omega) hf)

theorem iWay_l0 (g : gridOk w h c = true) (hb : Cell c.size b) (lab : Lab c.size (around w h c) (fun z => z ∈ [b]) far) (n : Nat) : ∀ (a : Int) (acc : List Int), n ≤ 64 → Cell c.size a → rd far a = n → acc.length + n ≤ 1000 → Ev (fun k => impl_WayTo.l0 k b far acc a w h c) (acc ++ wayL far (around w h c) n a) := by
  have hg := (gridOk_size g).2
  induction n with
  | zero =>
    intro a acc _ ha hn hacc
    have e : a = b := List.mem_singleton.1 ((lab.src a ha).1 (by rw [hn]; rfl))
    exact Ev.step (f := fun _ => some (acc ++ [])) (fun k => by rw [impl_WayTo.l0, if_pos e, List.append_nil]) (Ev.now _)
  | succ n ih =>
    intro a acc h64 ha hn hacc
    have e : ¬ a = b := fun hh => by
      have := (lab.src a ha).2 (List.mem_singleton.2 hh)
      omega
    obtain ⟨h1, h2, h3⟩ := next_find lab ha hn
    have hx := around_cell h2
    have := ih _ (acc ++ [nextC far (around w h c a) n]) (by omega) hx h3 (by simp; omega)
    rw [List.append_assoc] at this
    have a0 := ha.1
    have a1 := ha.2
    have hlen := lab.len
    refine Ev.step (fun k => by rw [impl_WayTo.l0, if_neg e]) (Ev.bind (iaround_ev g (x := a) (by omega) (by omega)) ?_)
    refine iWay_l1 _ (fun y hy => ?_) (around_len w h c a) a a0 (by omega) n (by omega) (fun y hy => nearer_iff lab ha hn hy) b acc (by omega) _ _ this _ 0 (Nat.zero_add _) h1
    have := around_cell hy
    rw [hlen]
    exact this
end

theorem iWayTo (w h : Int) (c : ByteArray) (a b : Int) : ∃ r, Ev (fun k => impl_WayTo.f k w h c a b) r ∧ WayIs w h c a b r := by
  obtain ⟨n, h1, hs⟩ := iStepsTo w h c a b
  by_cases hn : n < 0
  · exact ⟨[], Ev.bind h1 (Ev.of_eq fun k => by rw [if_pos hn]), n, hs, .inl ⟨hn, rfl⟩⟩
  · obtain ⟨far, h2, hA⟩ := iStepsFrom w h c [b] (by simp)
    obtain ⟨m, rfl, h64, lab, ca, e⟩ := wayIs_far hs hn hA
    have fB := freeAt_iff.mp (hs.get (by omega)).2.1
    exact ⟨_, Ev.bind h1 (Ev.congr (fun k => by rw [if_neg hn]) (Ev.bind h2 (iWay_l0 fB.1 ⟨fB.2.1, fB.2.2.1⟩ lab m a [a] h64 ca e (by simp; omega)))), _, hs, .inr ⟨m, far, rfl, h64, hA, lab, ca, e, rfl⟩⟩

theorem iAround (w h : Int) (c : ByteArray) (x : Int) (hx : (Lit.int .i64 x).wf = true) : Ev (fun k => impl_Around.f k w h c x) (around w h c x) := by
  have hb := wf64 hx
  refine Ev.bind (iGridOk w h c) ?_
  cases g : gridOk w h c with
  | false => rw [around_bad g]; exact Ev.of_eq fun k => by rw [if_neg (by simp)]
  | true => exact Ev.congr (fun k => by rw [if_pos rfl]) (Ev.bind (iaround_any g x hb.1 hb.2) (Ev.now _))

/-! slices.Contains -/
theorem index_l0 (xs : List Int) (v : Int) (hx : xs.length ≤ 1048576) (d : Nat) : ∀ i : Nat, i + d = xs.length → ∃ r, Ev (fun k => slices_Index_int_int.l0 k xs v (xs.length : Int) i) r ∧ decide (r ≥ 0) = (xs.drop i).contains v := by
  induction d with
  | zero =>
    intro i h
    have : xs.drop i = [] := List.drop_eq_nil_of_le (by omega)
    rw [this]
    exact ⟨-1, Ev.step (f := fun _ => some (-1)) (fun k => by rw [slices_Index_int_int.l0, if_neg (by omega)]) (Ev.now _), rfl⟩
  | succ d ih =>
    intro i h
    have e : rd xs (i : Int) = xs.getD i 0 := by unfold rd; rw [Int.toNat_natCast]
    have hw : wrap64 ((i : Int) + 1) = ((i + 1 : Nat) : Int) := by rw [w64 (by omega) (by omega)]; omega
    rw [drop_cons xs i 0 (by omega), List.contains_cons]
    by_cases hv : v = xs.getD i 0
    · rw [beq_iff_eq.mpr hv, Bool.true_or]
      exact ⟨i, Ev.step (f := fun _ => some (i : Int)) (fun k => by rw [slices_Index_int_int.l0, if_pos (by omega), if_pos (by omega), if_pos (by omega), e, if_pos hv]) (Ev.now _), by simp⟩
    · rw [beq_eq_false_iff_ne.mpr hv, Bool.false_or]
      obtain ⟨r, hr, hd⟩ := ih (i + 1) (by omega)
      exact ⟨r, Ev.step (fun k => by rw [slices_Index_int_int.l0, if_pos (by omega), if_pos (by omega), if_pos (by omega), e, if_neg hv, hw]) hr, hd⟩

theorem contains_ev (xs : List Int) (v : Int) (hx : xs.length ≤ 1048576) : Ev (fun k => slices_Contains_int_int.f k xs v) (xs.contains v) := by
  obtain ⟨r, hr, hd⟩ := index_l0 xs v hx xs.length 0 (Nat.zero_add _)
  rw [List.drop_zero] at hd
  rw [show ((0 : Nat) : Int) = 0 from rfl] at hr
  rw [← hd]
  exact Ev.bind hr (Ev.now _)

/-! impl.Beside -/
theorem iBeside (w h : Int) (c : ByteArray) (x y : Int) (hx : (Lit.int .i64 x).wf = true) : Ev (fun k => impl_Beside.f k w h c x y) ((around w h c x).contains y) :=
  Ev.bind (iAround w h c x hx) (Ev.bind (contains_ev _ y (by have := around_len w h c x; omega)) (Ev.now _))

/-! what HomeOf answers -/
/-- the first cell that a free cell reaches; -1 for what is no free cell -/
def HomeIs (w h : Int) (c : ByteArray) (a v : Int) : Prop :=
  (freeAt w h c a = false ∧ v = -1) ∨ (freeAt w h c a = true ∧ ∃ r, Answer w h c [a] r ∧ 0 ≤ rd r v ∧ 0 ≤ v ∧ v ≤ a ∧ ∀ i, 0 ≤ i → i < v → rd r i < 0)

theorem HomeIs.unique {w h : Int} {c : ByteArray} {a v u : Int} (p : HomeIs w h c a v) (q : HomeIs w h c a u) : v = u := by
  rcases p with ⟨p1, p2⟩ | ⟨p1, r, p2, p3, p4, p5, p6⟩
  · rcases q with ⟨q1, q2⟩ | ⟨q1, _⟩
    · omega
    · rw [p1] at q1; cases q1
  · rcases q with ⟨q1, _⟩ | ⟨q1, s, q2, q3, q4, q5, q6⟩
    · rw [p1] at q1; cases q1
    · obtain rfl := p2.unique q2
      rcases Int.lt_or_le v u with h1 | h1
      · have := q6 v p4 h1; omega
      · rcases Int.lt_or_le u v with h2 | h2
        · have := p6 u q4 h2; omega
        · omega

/-- a free cell's own label is 0 -/
theorem answer_self {w h : Int} {c : ByteArray} {a : Int} {r : List Int} (ha : freeAt w h c a = true) (p : Answer w h c [a] r) : rd r a = 0 ∧ r.length = c.size ∧ 0 ≤ a ∧ a < c.size ∧ c.size ≤ 64 := by
  have f := freeAt_iff.mp ha
  rcases p with ⟨g, _, lab⟩ | ⟨e, _⟩
  · exact ⟨(lab.src a ⟨f.2.1, f.2.2.1⟩).2 (List.mem_singleton.2 rfl), lab.len, f.2.1, f.2.2.1, (gridOk_size g).2⟩
  · exact absurd ⟨f.1, fun z hz => by rw [List.mem_singleton.1 hz]; exact ha⟩ e

/-! one part: two free cells whose labels reach each other have the same part and the same home -/
theorem lab_to {n : Nat} {A : Int → List Int} {S : Int → Prop} {d e : List Int} {a : Int} (p : Lab n A (fun z => z ∈ [a]) d) (q : Lab n A S e) (ha : 0 ≤ rd e a) (m : Nat) :
    ∀ x, Cell n x → rd d x = m → 0 ≤ rd e x ∧ rd e x ≤ rd e a + m := by
  induction m with
  | zero =>
    intro x hx hm
    have := (p.src x hx).1 (by rw [hm]; rfl)
    rw [List.mem_singleton] at this
    subst this
    omega
  | succ m ih =>
    intro x hx hm
    obtain ⟨u, hu, hxu, e1⟩ := p.pred x hx (by omega)
    have h2 := ih u hu (by omega)
    have h1 := q.edge u hu h2.1 x hxu
    omega

theorem freeCell {w h : Int} {c : ByteArray} {a : Int} (ha : freeAt w h c a = true) : Cell c.size a := by
  have := freeAt_iff.mp ha
  exact ⟨this.2.1, this.2.2.1⟩

/-- what has a label is free -/
theorem label_free {w h : Int} {c : ByteArray} {a i : Int} {r : List Int} (ha : freeAt w h c a = true) (p : Answer w h c [a] r) (hi : Cell c.size i) (h0 : 0 ≤ rd r i) : freeAt w h c i = true := by
  have lab := answer_lab p ha
  rcases Int.lt_or_le 0 (rd r i) with h1 | h1
  · obtain ⟨u, hu, hiu, _⟩ := lab.pred i hi h1
    exact (mem_around.mp hiu).2.1
  · have := (lab.src i hi).1 (by omega)
    rw [List.mem_singleton] at this
    rw [this]; exact ha

theorem conn_same {w h : Int} {c : ByteArray} {a b : Int} {r s : List Int} (ha : freeAt w h c a = true) (hb : freeAt w h c b = true) (p : Answer w h c [a] r) (q : Answer w h c [b] s) (hab : 0 ≤ rd r b) : 0 ≤ rd s a ∧ ∀ i, Cell c.size i → (0 ≤ rd r i ↔ 0 ≤ rd s i) := by
  have l1 := answer_lab p ha
  have l2 := answer_lab q hb
  have sy := lab_sym (fun x y hy => around_symm hy) (freeCell ha) (freeCell hb) l1 l2
  refine ⟨by omega, fun i hi => ⟨fun h0 => ?_, fun h0 => ?_⟩⟩
  · exact (lab_to l1 l2 (by omega) (rd r i).toNat i hi (by omega)).1
  · exact (lab_to l2 l1 hab (rd s i).toNat i hi (by omega)).1

/-- a home is a free cell that is its own home -/
theorem home_free {w h : Int} {c : ByteArray} {a v : Int} (p : HomeIs w h c a v) (hv : 0 ≤ v) : freeAt w h c a = true ∧ freeAt w h c v = true ∧ v ≤ a ∧ ∃ r, Answer w h c [a] r ∧ 0 ≤ rd r v ∧ ∀ i, 0 ≤ i → i < v → rd r i < 0 := by
  rcases p with ⟨_, p2⟩ | ⟨p1, r, p2, p3, p4, p5, p6⟩
  · omega
  · have ca := freeCell p1
    exact ⟨p1, label_free p1 p2 ⟨p4, by have := ca.2; omega⟩ p3, p5, r, p2, p3, p6⟩

/-- the home of a cell is v just when v's labels reach it, v a home -/
theorem home_iff {w h : Int} {c : ByteArray} {v x u : Int} {s : List Int} (hv : HomeIs w h c v v) (h0 : 0 ≤ v) (hs : Answer w h c [v] s) (hx : Cell c.size x) (hu : HomeIs w h c x u) : u = v ↔ 0 ≤ rd s x := by
  obtain ⟨fv, _, _, s', hs', sv, low⟩ := home_free hv h0
  obtain rfl := hs'.unique hs
  constructor
  · rintro rfl
    obtain ⟨fx, _, _, r, hr, rv, _⟩ := home_free hu h0
    exact (conn_same fx fv hr hs rv).1
  · intro h1
    have fx := label_free fv hs hx h1
    rcases hu with ⟨e, _⟩ | ⟨_, r, hr, r1, r2, r3, r4⟩
    · rw [fx] at e; cases e
    · obtain ⟨c1, c2⟩ := conn_same fv fx hs hr h1
      rcases Int.lt_or_le u v with a1 | a1
      · have := low u r2 a1
        have := (c2 u ⟨r2, by have := hx.2; omega⟩).2 r1
        omega
      · rcases Int.lt_or_le v u with a2 | a2
        · have := r4 v h0 a2
          have := (c2 v (freeCell fv)).1 sv
          omega
        · omega

/-- what CountIn counts -/
def inPart (n : Nat) (s : List Int) (z : Int) : Bool := decide (0 ≤ z ∧ z < n ∧ 0 ≤ rd s z)

def CountIs (w h : Int) (c : ByteArray) (v : Int) (l : List Int) (n : Int) : Prop :=
  (¬ (HomeIs w h c v v ∧ 0 ≤ v) ∧ n = 0) ∨ ((HomeIs w h c v v ∧ 0 ≤ v) ∧ ∃ s, Answer w h c [v] s ∧ s.length = c.size ∧ n = (l.countP (inPart c.size s) : Int))

theorem CountIs.unique {w h : Int} {c : ByteArray} {v : Int} {l : List Int} {n m : Int} (p : CountIs w h c v l n) (q : CountIs w h c v l m) : n = m := by
  rcases p with ⟨p1, p2⟩ | ⟨p1, s, p2, _, p3⟩
  · rcases q with ⟨q1, q2⟩ | ⟨q1, t, q2, _, q3⟩
    · omega
    · exact absurd q1 p1
  · rcases q with ⟨q1, q2⟩ | ⟨q1, t, q2, _, q3⟩
    · exact absurd p1 q1
    · obtain rfl := p2.unique q2
      omega

theorem count_drop (p : Int → Bool) (l : List Int) (j : Nat) (hj : j < l.length) : ((l.drop j).countP p : Int) = (if p (l.getD j 0) = true then 1 else 0) + ((l.drop (j + 1)).countP p : Int) := by
  rw [drop_cons l j 0 hj, List.countP_cons]
  cases p (l.getD j 0) <;> simp <;> omega

/-! labels with two sources are the lesser of the two labels -/
theorem lab_mono {n : Nat} {A : Int → List Int} {S T : Int → Prop} {d e : List Int} (hST : ∀ z, S z → T z) (a : Base n A S d) (b : Lab n A T e) (m : Nat) : ∀ x, Cell n x → rd d x = m → 0 ≤ rd e x ∧ rd e x ≤ m := by
  induction m with
  | zero =>
    intro x hx h
    have hs := (a.src x hx).1 (by rw [h]; rfl)
    rw [(b.src x hx).2 (hST x hs)]
    omega
  | succ m ih =>
    intro x hx h
    obtain ⟨u, hu, hxu, e1⟩ := a.pred x hx (by omega)
    have h1 := ih u hu (by omega)
    have h2 := b.edge u hu h1.1 x hxu
    omega

theorem lab_two {n : Nat} {A : Int → List Int} {a b : Int} {F r s : List Int} (p : Lab n A (fun z => z ∈ [a, b]) F) (q : Lab n A (fun z => z ∈ [a]) r) (t : Lab n A (fun z => z ∈ [b]) s) (m : Nat) : ∀ x, Cell n x → rd F x = m → (0 ≤ rd r x ∧ rd r x ≤ m) ∨ (0 ≤ rd s x ∧ rd s x ≤ m) := by
  induction m with
  | zero =>
    intro x hx h
    have hs := (p.src x hx).1 (by rw [h]; rfl)
    rcases List.mem_cons.1 hs with e | e
    · left; rw [(q.src x hx).2 (List.mem_singleton.2 e)]; omega
    · right; rw [(t.src x hx).2 e]; omega
  | succ m ih =>
    intro x hx h
    obtain ⟨u, hu, hxu, e1⟩ := p.pred x hx (by omega)
    rcases ih u hu (by omega) with h1 | h1
    · have h2 := q.edge u hu h1.1 x hxu
      left; omega
    · have h2 := t.edge u hu h1.1 x hxu
      right; omega

/-- the label of x with two sources -/
theorem two_label {w h : Int} {c : ByteArray} {a b x : Int} {F r s : List Int} (ha : freeAt w h c a = true) (hb : freeAt w h c b = true) (hx : freeAt w h c x = true) (p : Answer w h c [a, b] F) (q : Answer w h c [a] r) (t : Answer w h c [b] s) :
    F.length = c.size ∧ rd F x = (if 0 ≤ rd s x ∧ (rd r x < 0 ∨ rd s x < rd r x) then rd s x else rd r x) := by
  have lq := answer_lab q ha
  have lt := answer_lab t hb
  have lp : Lab c.size (around w h c) (fun z => z ∈ [a, b]) F := by
    rcases p with ⟨_, _, lab⟩ | ⟨e, _⟩
    · exact lab
    · exact absurd ⟨(freeAt_iff.mp ha).1, fun z hz => by
        rcases List.mem_cons.1 hz with e | e
        · rw [e]; exact ha
        · rw [List.mem_singleton.1 e]; exact hb⟩ e
  have cx := freeCell hx
  refine ⟨lp.len, ?_⟩
  have f1 := fun m => lab_mono (S := fun z => z ∈ [a]) (T := fun z => z ∈ [a, b]) (fun z hz => List.mem_cons.2 (.inl (List.mem_singleton.1 hz))) lq.toBase lp m x cx
  have f2 := fun m => lab_mono (S := fun z => z ∈ [b]) (T := fun z => z ∈ [a, b]) (fun z hz => List.mem_cons.2 (.inr hz)) lt.toBase lp m x cx
  have f3 := fun m => lab_two lp lq lt m x cx
  have l1 := lq.lo x cx
  have l2 := lt.lo x cx
  have l3 := lp.lo x cx
  generalize rd F x = u at *
  generalize rd r x = v at *
  generalize rd s x = y at *
  have g1 : 0 ≤ v → 0 ≤ u ∧ u ≤ v := fun hv => by have := f1 v.toNat (by omega); omega
  have g2 : 0 ≤ y → 0 ≤ u ∧ u ≤ y := fun hv => by have := f2 y.toNat (by omega); omega
  have g3 : 0 ≤ u → (0 ≤ v ∧ v ≤ u) ∨ (0 ≤ y ∧ y ≤ u) := fun hu => by have := f3 u.toNat (by omega); omega
  split <;> omega

end Go.Proofs.Ytabepbkolmimlaa.QFnSteps

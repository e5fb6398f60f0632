/- A slice that a law is handed reads as a list whose elements read each as its kind says; whatever the element type. -/
import Derived.Deep.Slices
import Derived.Lib.SmallJoins
import Derived.Test.YtkaffmlppfppeaaWWords
import Derived.Test.YtkaffmlppfppeaaWMore
namespace Go.Proofs.Ytkaffmlppfppeaa.MRowOpen
open Go.RowKit Go.Deep Go.ChangeShapes Go.WideShapes Go.Proofs.YtkaffmlppfppeaaW.PrintWords Go.Proofs.YtkaffmlppfppeaaW.PrintMore
set_option linter.unusedVariables false

theorem list_of {α : Type} (p : Nat → α → Prop) (n : Nat) (h : ∀ i, i < n → ∃ a, p i a) : ∃ l : List α, l.length = n ∧ ∀ (i : Nat) (a : α), l[i]? = some a → p i a := by
  induction n with
  | zero => exact ⟨[], rfl, fun i a h => by simp at h⟩
  | succ n ih =>
    obtain ⟨l, hl, hp⟩ := ih (fun i hi => h i (by omega))
    obtain ⟨a, ha⟩ := h n (by omega)
    refine ⟨l ++ [a], by simp [hl], fun i b hb => ?_⟩
    rcases Nat.lt_or_ge i n with hi | hi
    · rw [List.getElem?_append_left (by omega)] at hb
      exact hp i b hb
    · have : i = n := by
        have := (List.getElem?_eq_some_iff.1 hb).1
        simp at this
        omega
      subst this
      rw [List.getElem?_append_right (by omega)] at hb
      simp [hl] at hb
      subst hb
      exact ha

theorem row_C {α : Type} (d : Kd α) (ok : α → Prop) {H : Type} {enc : TypeId × Value → H} {P : Program} {w : World} {base : Nat} {spare : Nat → Bool} {held : Bool} {t e : TypeId}
    (ht : P.underlying t = some (.slice e)) (hsz : P.cellsOf e = d.sz)
    (hel : ∀ fuel cs x, DataW.trod enc P w base spare held fuel e cs = some x → ∃ a, d.K w a cs ∧ ok a)
    {fuel : Nat} {A : Option Addr} {len cap : Nat} {x : DataW H × List MemPlace} (h : DataW.trod enc P w base spare held fuel t [.slice A len cap] = some x) :
    ∃ l : List α, len = l.length ∧ l.length ≤ cap ∧ l.length ≤ 9223372036854775807 ∧ Kd.C d w A l.length l ∧ ∀ a ∈ l, ok a := by
  rcases open_slice ht h with ⟨hcs, _⟩ | ⟨a, len', cap', m, n, D, Pl, hcs, hb, hl, hm, hmm, _, hx⟩
  · simp at hcs
    obtain ⟨rfl, rfl, rfl⟩ := hcs
    exact ⟨[], rfl, by simp, by simp, Kd.C_nil d w, by simp⟩
  · simp at hcs
    obtain ⟨rfl, rfl, rfl⟩ := hcs
    have hle : len ≤ m := by rw [hmm]; split <;> omega
    obtain ⟨l, hlen, hp⟩ := list_of (fun i (b : α) => ok b ∧ ∃ c, c.length = d.sz ∧ d.K w b c ∧ ∀ j u, c[j]? = some u → w.cell? (a.add (i * d.sz + j)) = some u) len (fun i hi => by
      obtain ⟨cs', h1, h2⟩ := hx i (by omega)
      obtain ⟨b, hK, ho⟩ := hel _ _ _ h2
      obtain ⟨_, hlc, hcell⟩ := World.cells?_some h1
      refine ⟨b, ho, cs', hlc.trans hsz, hK, fun j u hu => ?_⟩
      have hj := (List.getElem?_eq_some_iff.1 hu).1
      have := hcell j (by omega)
      rw [Go.Deep.add_add, hsz] at this
      rw [this]
      exact hu)
    unfold maxLen at hm
    subst hlen
    refine ⟨l, rfl, hl, by omega, ⟨rfl, by omega, fun _ => ⟨a, rfl, fun j b hj => (hp j b hj).2⟩⟩, fun b hb => ?_⟩
    obtain ⟨i, hi⟩ := List.getElem?_of_mem hb
    exact (hp i b hi).1

theorem el_int {H : Type} {enc : TypeId × Value → H} {P : Program} {w : World} {base : Nat} {spare : Nat → Bool} {held : Bool} {e : TypeId} (he : P.underlying e = some (.int .i64)) :
    ∀ fuel cs x, DataW.trod enc P w base spare held fuel e cs = some x → ∃ a, (Kd.int .i64).K w a cs ∧ (Lit.int .i64 a).wf = true := fun fuel cs x h => by
  obtain ⟨n, rfl, _, hw⟩ := DataW.trod_int he h
  exact ⟨n, rfl, hw⟩

theorem el_bool {H : Type} {enc : TypeId × Value → H} {P : Program} {w : World} {base : Nat} {spare : Nat → Bool} {held : Bool} {e : TypeId} (he : P.underlying e = some .bool) :
    ∀ fuel cs x, DataW.trod enc P w base spare held fuel e cs = some x → ∃ a, Kd.bool.K w a cs ∧ True := fun fuel cs x h => by
  obtain ⟨b, rfl, _⟩ := DataW.trod_bool he h
  exact ⟨b, rfl, trivial⟩

theorem el_ints4 {H : Type} {enc : TypeId × Value → H} {P : Program} {w : World} {base : Nat} {spare : Nat → Bool} {held : Bool} {e i : TypeId} {n0 n1 n2 n3 : String} {k0 k1 k2 k3 : String} {b0 b1 b2 b3 : Bool} {f0 f1 f2 f3 : Field}
    (he : P.underlying e = some (.struct #[f0, f1, f2, f3])) (hi : P.underlying i = some (.int .i64)) (h0 : f0.type = i ∧ f0.offset = 0) (h1 : f1.type = i ∧ f1.offset = 1) (h2 : f2.type = i ∧ f2.offset = 2) (h3 : f3.type = i ∧ f3.offset = 3) (hc : P.cellsOf i = 1) (hce : P.cellsOf e = 4) :
    ∀ fuel cs x, DataW.trod enc P w base spare held fuel e cs = some x → ∃ a b c d : Int, cs = [.int .i64 a, .int .i64 b, .int .i64 c, .int .i64 d] ∧ (Lit.int .i64 a).wf = true ∧ (Lit.int .i64 b).wf = true ∧ (Lit.int .i64 c).wf = true ∧ (Lit.int .i64 d).wf = true := fun fuel cs x h => by
  obtain ⟨y0, y1, y2, y3, n, _, hl, g0, g1, g2, g3⟩ := Go.Joins.trod_struct4 he h
  rw [h0.1, h0.2, hc] at g0
  rw [h1.1, h1.2, hc] at g1
  rw [h2.1, h2.2, hc] at g2
  rw [h3.1, h3.2, hc] at g3
  rw [hce] at hl
  match cs, hl with
  | [v0, v1, v2, v3], _ =>
    obtain ⟨a, e0, _, w0⟩ := DataW.trod_int hi g0
    obtain ⟨b, e1, _, w1⟩ := DataW.trod_int hi g1
    obtain ⟨c, e2, _, w2⟩ := DataW.trod_int hi g2
    obtain ⟨d, e3, _, w3⟩ := DataW.trod_int hi g3
    simp at e0 e1 e2 e3
    subst e0 e1 e2 e3
    exact ⟨a, b, c, d, rfl, w0, w1, w2, w3⟩
end Go.Proofs.Ytkaffmlppfppeaa.MRowOpen

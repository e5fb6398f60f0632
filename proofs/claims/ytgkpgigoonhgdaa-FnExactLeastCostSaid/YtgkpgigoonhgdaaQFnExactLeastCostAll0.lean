/- What the functions that the law FnExactLeastCost reaches compute: SzNet, Arcs, ToNet, EqNet, ArcAt, NetOkI, StepsOf, RowsH, RunIs, DistI, CostI, PushStep, CheapI, FarS, BackS, NetOkS, L06Out, FlowOkS, FlowCostS, CheapS. -/
import Derived.Test.YtgkpgigoonhgdaaPFnExactLeastCostx
import Derived.Test.YtgkpgigoonhgdaaMBase
import Derived.Test.YtgkpgigoonhgdaaMLists
import Derived.Test.YtgkpgigoonhgdaaMNet
import Derived.Test.YtgkpgigoonhgdaaMCut
import Derived.Test.YtgkpgigoonhgdaaMDist
import Derived.Test.YtgkpgigoonhgdaaMCheap
import Derived.Test.YtgkpgigoonhgdaaMSpfa
namespace Go.Proofs.Ytgkpgigoonhgdaa.QFnExactLeastCost
open Go.RowKit Go.Proofs.Ytgkpgigoonhgdaa.PFnExactLeastCost Go.Proofs.YtgkpgigoonhgdaaW.PrintWords Go.Proofs.YtgkpgigoonhgdaaW.PrintLast Go.Proofs.YtgkpgigoonhgdaaW.PrintMore Go.Proofs.Ytgkpgigoonhgdaa.MBase Go.Proofs.Ytgkpgigoonhgdaa.MLists Go.Proofs.Ytgkpgigoonhgdaa.MNet Go.Proofs.Ytgkpgigoonhgdaa.MCut Go.Proofs.Ytgkpgigoonhgdaa.MDist Go.Proofs.Ytgkpgigoonhgdaa.MCheap Go.Proofs.Ytgkpgigoonhgdaa.MSpfa
set_option linter.unusedVariables false
set_option linter.unusedSimpArgs false

/-! szNet -/
theorem szNet_ev (n : Int) (l : List S91) (hl : l.length ≤ 9223372036854775807) :
    (∃ t, laws_szNet.f n l 1048576 = some t ∧ t < 0) ∨ (l.length ≤ 1048576 ∧ ∃ t, laws_szNet.f n l 1048576 = some t ∧ ¬ t < 0) := by
  unfold laws_szNet.f laws_szArcS.f
  rw [w64 (by omega) (by omega)]
  by_cases hb : (1048576 - (l.length : Int)) < 0
  · exact .inl ⟨-1, by rw [if_pos hb, Option.bind_some, if_pos (by omega)], by omega⟩
  · exact .inr ⟨by omega, 1048576 - (l.length : Int), by rw [if_neg hb, Option.bind_some, if_neg hb], hb⟩

/-! the arcs of a list of structs, as plain data -/
def arcs (l : List S67) : List Arc := l.map fun a => ⟨a.f0, a.f1, a.f2, a.f3⟩

/-! toNet: the arcs are copied one by one -/
def conv (a : S91) : S67 := ⟨a.f0, a.f1, a.f2, a.f3⟩

theorem toArcS_l0 (xs : List S91) (hx : xs.length ≤ 1048576) (d : Nat) : ∀ (ys : List S67) (i : Int), 0 ≤ i → i + d = xs.length → Copied conv xs ys i → Ev (fun k => laws_toArcS.l0 k xs ys i) (xs.map conv) := by
  induction d with
  | zero =>
    intro ys i h0 h1 hc
    rw [← hc.end_ (by omega)]
    exact Ev.step (f := fun _ => some ys) (fun k => by rw [laws_toArcS.l0, if_neg (by omega)]) (Ev.now _)
  | succ d ih =>
    intro ys i h0 h1 hc
    have hl := hc.1
    refine Ev.step (fun k => by rw [laws_toArcS.l0, if_pos (by omega), if_pos h0, laws_toArc.f, Option.bind_some, if_pos (by omega), w64 (by omega) (by omega)]; rfl) (ih _ (i + 1) (by omega) (by omega) (hc.step h0 (by omega) z91 rfl))

theorem toNet_ev (n : Int) (l : List S91) (hl : l.length ≤ 1048576) : Ev (fun k => laws_toNet.f k n l) (n, l.map conv) := by
  refine Ev.bind (a := l.map conv) ?_ (Ev.now _)
  refine Ev.congr (fun k => by unfold laws_toArcS.f; rw [if_pos (by omega), if_pos (by omega)]) ?_
  exact toArcS_l0 l hl l.length _ 0 (by omega) (by omega) (by rw [Int.toNat_natCast]; exact Copied.start conv l z67)

/-! eqNet: a net equals itself -/
theorem eqArcS_l0 (xs : List S67) (hx : xs.length ≤ 1048576) (d : Nat) : ∀ i : Int, 0 ≤ i → i + d = xs.length → Ev (fun k => laws_eqArcS.l0 k xs xs i) true := by
  induction d with
  | zero => intro i h0 h1; exact Ev.step (f := fun _ => some true) (fun k => by rw [laws_eqArcS.l0, if_neg (by omega)]) (Ev.now _)
  | succ d ih =>
    intro i h0 h1
    refine Ev.step (fun k => by rw [laws_eqArcS.l0, if_pos (by omega), if_pos h0, if_pos (by omega), laws_eqArc.f, if_pos rfl, if_pos rfl, if_pos rfl, if_pos rfl, Option.bind_some, if_pos rfl, w64 (by omega) (by omega)]) (ih (i + 1) (by omega) (by omega))

theorem eqNet_same (n : Int) (l : List S67) (hl : l.length ≤ 1048576) : Ev (fun k => laws_eqNet.f k n l n l) true := by
  refine Ev.congr (fun k => by unfold laws_eqNet.f; rw [if_pos rfl]) (Ev.bind (a := true) ?_ (Ev.of_eq fun k => by rw [if_pos rfl]))
  exact Ev.congr (fun k => by unfold laws_eqArcS.f; rw [if_pos rfl]) (eqArcS_l0 l hl l.length 0 (by omega) (by omega))

/-! the arcs of a list of structs -/
theorem arcs_len (l : List S67) : (arcs l).length = l.length := by unfold arcs; rw [List.length_map]
theorem at_f (l : List S67) (i : Int) : (rd_T67 l i).f0 = (at_ (arcs l) i.toNat).u ∧ (rd_T67 l i).f1 = (at_ (arcs l) i.toNat).v ∧ (rd_T67 l i).f2 = (at_ (arcs l) i.toNat).r ∧ (rd_T67 l i).f3 = (at_ (arcs l) i.toNat).c := by
  unfold rd_T67 at_ arcs
  rw [List.getD_eq_getElem?_getD, List.getD_eq_getElem?_getD, List.getElem?_map]
  cases l[i.toNat]? with
  | none => exact ⟨rfl, rfl, rfl, rfl⟩
  | some a => exact ⟨rfl, rfl, rfl, rfl⟩
theorem at_0 (l : List S67) (i : Int) : (rd_T67 l i).f0 = (at_ (arcs l) i.toNat).u := (at_f l i).1
theorem at_1 (l : List S67) (i : Int) : (rd_T67 l i).f1 = (at_ (arcs l) i.toNat).v := (at_f l i).2.1
theorem at_2 (l : List S67) (i : Int) : (rd_T67 l i).f2 = (at_ (arcs l) i.toNat).r := (at_f l i).2.2.1
theorem at_3 (l : List S67) (i : Int) : (rd_T67 l i).f3 = (at_ (arcs l) i.toNat).c := (at_f l i).2.2.2

/-! impl.NetOk -/
theorem impl_arcs (n : Int) (l : List S67) (hl : l.length ≤ 3200) (d : Nat) : ∀ i : Int, 0 ≤ i → i + d = l.length →
    Ev (fun k => impl_NetOk.l0 k l (l.length : Int) i n l) (boolP (∀ j : Nat, i ≤ j → j < l.length → ArcOk n (at_ (arcs l) j))) := by
  induction d with
  | zero =>
    intro i h0 h1
    rw [boolP_true (fun j a b => by omega)]
    exact Ev.step (f := fun _ => some true) (fun k => by rw [impl_NetOk.l0, if_neg (by omega)]) (Ev.now _)
  | succ d ih =>
    intro i h0 h1
    have hi : ((i.toNat : Nat) : Int) = i := by omega
    have bad : ¬ ArcOk n (at_ (arcs l) i.toNat) → boolP (∀ j : Nat, i ≤ j → j < l.length → ArcOk n (at_ (arcs l) j)) = false := fun hb => boolP_false (fun h => hb (h i.toNat (by omega) (by omega)))
    have head : ∀ k, impl_NetOk.l0 (k + 1 + 1) l (l.length : Int) i n l = if ArcOk n (at_ (arcs l) i.toNat) then impl_NetOk.l0 k l (l.length : Int) (i + 1) n l else some false := fun k => by
      rw [impl_NetOk.l0, if_pos (by omega), if_pos h0, if_pos (by omega), at_0, at_1, at_2, at_3]
      simp only [impl_NetOk.j2]
      rw [w64 (x := i + 1) (by omega) (by omega)]
      by_cases c1 : (at_ (arcs l) i.toNat).u < 0
      · rw [if_pos c1, if_pos trivial, if_neg (by unfold ArcOk; omega)]
      rw [if_neg c1]
      by_cases c2 : (at_ (arcs l) i.toNat).u ≥ n
      · rw [if_pos c2, if_pos trivial, if_neg (by unfold ArcOk; omega)]
      rw [if_neg c2]
      by_cases c3 : (at_ (arcs l) i.toNat).v < 0
      · rw [if_pos c3, if_pos trivial, if_neg (by unfold ArcOk; omega)]
      rw [if_neg c3]
      by_cases c4 : (at_ (arcs l) i.toNat).v ≥ n
      · rw [if_pos c4, if_pos trivial, if_neg (by unfold ArcOk; omega)]
      rw [if_neg c4]
      by_cases c5 : (at_ (arcs l) i.toNat).u = (at_ (arcs l) i.toNat).v
      · rw [if_pos (beq_iff_eq.mpr c5), if_neg (by unfold ArcOk; omega)]
      rw [if_neg (by simpa using c5)]
      by_cases c6 : (at_ (arcs l) i.toNat).r < 0
      · rw [if_pos c6, if_neg (by unfold ArcOk; omega)]
      rw [if_neg c6]
      by_cases c7 : (at_ (arcs l) i.toNat).r > 20
      · rw [if_pos c7, if_neg (by unfold ArcOk; omega)]
      rw [if_neg c7]
      by_cases c8 : (at_ (arcs l) i.toNat).c < 0
      · rw [if_pos c8, if_neg (by unfold ArcOk; omega)]
      rw [if_neg c8]
      by_cases c9 : (at_ (arcs l) i.toNat).c > 100
      · rw [if_pos c9, if_neg (by unfold ArcOk; omega)]
      rw [if_neg c9, if_pos (by unfold ArcOk; omega)]
    by_cases ha : ArcOk n (at_ (arcs l) i.toNat)
    · have e : boolP (∀ j : Nat, i ≤ j → j < l.length → ArcOk n (at_ (arcs l) j)) = boolP (∀ j : Nat, i + 1 ≤ j → j < l.length → ArcOk n (at_ (arcs l) j)) := by
        rw [Bool.eq_iff_iff, boolP_iff, boolP_iff]
        constructor
        · intro h j a b; exact h j (by omega) b
        · intro h j a b
          by_cases hj : j = i.toNat
          · rw [hj]; exact ha
          · exact h j (by omega) b
      rw [e]
      exact Ev.step (g := fun k => impl_NetOk.l0 k l (l.length : Int) i n l) (f := fun k => impl_NetOk.l0 (k + 1) l (l.length : Int) i n l) (fun k => rfl) (Ev.step (fun k => by rw [head, if_pos ha]) (ih (i + 1) (by omega) (by omega)))
    · rw [bad ha]
      exact Ev.step (g := fun k => impl_NetOk.l0 k l (l.length : Int) i n l) (f := fun k => impl_NetOk.l0 (k + 1) l (l.length : Int) i n l) (fun k => rfl) (Ev.step (f := fun _ => some false) (fun k => by rw [head, if_neg ha]) (Ev.now _))

theorem iNetOk (n : Int) (l : List S67) (hlen : l.length ≤ 1048576) : Ev (fun k => impl_NetOk.f k n l) (boolP (NetOk n (arcs l))) := by
  have bad : ∀ hn : ¬ NetOk n (arcs l), Ev (fun k => impl_NetOk.j0 k true n l) (boolP (NetOk n (arcs l))) := fun hn => by
    rw [boolP_false hn]
    exact Ev.step (f := fun _ => some false) (fun k => by rw [impl_NetOk.j0, if_pos rfl]) (Ev.now _)
  by_cases h1 : n < 2
  · exact Ev.congr (fun k => by unfold impl_NetOk.f; rw [if_pos h1]) (bad (fun hh => by have := hh.1; omega))
  by_cases h2 : n > 1500
  · exact Ev.congr (fun k => by unfold impl_NetOk.f; rw [if_neg h1, if_pos h2]) (bad (fun hh => by have := hh.1; omega))
  refine Ev.congr (fun k => by unfold impl_NetOk.f; rw [if_neg h1, if_neg h2]) ?_
  by_cases h3 : (l.length : Int) > 3200
  · rw [decide_eq_true h3]
    exact bad (fun hh => by have := hh.1; rw [arcs_len] at this; omega)
  · rw [decide_eq_false h3]
    have e : boolP (NetOk n (arcs l)) = boolP (∀ j : Nat, (0 : Int) ≤ j → j < l.length → ArcOk n (at_ (arcs l) j)) := by
      rw [Bool.eq_iff_iff, boolP_iff, boolP_iff]
      constructor
      · intro h j a b; exact h.2 j (by rw [arcs_len]; exact b)
      · intro h; exact ⟨⟨by omega, by omega, by rw [arcs_len]; omega⟩, fun i hi => h i (by omega) (by rw [arcs_len] at hi; exact hi)⟩
    rw [e]
    exact Ev.step (fun k => by rw [impl_NetOk.j0, if_neg (by simp)]) (impl_arcs n l (by omega) l.length 0 (by omega) (by omega))

/-! impl.stepsOf: the steps that leave each node, and those that enter it -/
def toS (s : Nat × Bool) : S79 := ⟨s.1, s.2⟩
def outL (l : List Arc) (u : Int) : Nat → List (Nat × Bool)
  | 0 => []
  | m + 1 => outL l u m ++ ((if (at_ l m).u = u then [(m, false)] else []) ++ (if (at_ l m).v = u then [(m, true)] else []))
def inL (l : List Arc) (u : Int) : Nat → List (Nat × Bool)
  | 0 => []
  | m + 1 => inL l u m ++ ((if (at_ l m).v = u then [(m, false)] else []) ++ (if (at_ l m).u = u then [(m, true)] else []))

theorem outL_len (l : List Arc) (u : Int) (m : Nat) : (outL l u m).length ≤ 2 * m := by
  induction m with
  | zero => exact Nat.le_refl _
  | succ m ih => rw [outL, List.length_append, List.length_append]; split <;> split <;> simp <;> omega
theorem inL_len (l : List Arc) (u : Int) (m : Nat) : (inL l u m).length ≤ 2 * m := by
  induction m with
  | zero => exact Nat.le_refl _
  | succ m ih => rw [inL, List.length_append, List.length_append]; split <;> split <;> simp <;> omega

theorem mem_outL (l : List Arc) (u : Int) (m : Nat) (i : Nat) (b : Bool) : (i, b) ∈ outL l u m ↔ i < m ∧ sFrom l i b = u := by
  induction m with
  | zero => simp [outL]
  | succ m ih =>
    rw [outL, List.mem_append, List.mem_append, ih]
    have e1 : (i, b) ∈ (if (at_ l m).u = u then [(m, false)] else ([] : List (Nat × Bool))) ↔ (at_ l m).u = u ∧ i = m ∧ b = false := by split <;> simp [*]
    have e2 : (i, b) ∈ (if (at_ l m).v = u then [(m, true)] else ([] : List (Nat × Bool))) ↔ (at_ l m).v = u ∧ i = m ∧ b = true := by split <;> simp [*]
    rw [e1, e2]
    constructor
    · rintro (⟨h1, h2⟩ | ⟨h1, rfl, rfl⟩ | ⟨h1, rfl, rfl⟩)
      · exact ⟨by omega, h2⟩
      · exact ⟨by omega, h1⟩
      · exact ⟨by omega, h1⟩
    · rintro ⟨h1, h2⟩
      by_cases h : i < m
      · exact .inl ⟨h, h2⟩
      · obtain rfl : i = m := by omega
        cases b
        · exact .inr (.inl ⟨h2, rfl, rfl⟩)
        · exact .inr (.inr ⟨h2, rfl, rfl⟩)

theorem mem_inL (l : List Arc) (u : Int) (m : Nat) (i : Nat) (b : Bool) : (i, b) ∈ inL l u m ↔ i < m ∧ sTo l i b = u := by
  induction m with
  | zero => simp [inL]
  | succ m ih =>
    rw [inL, List.mem_append, List.mem_append, ih]
    have e1 : (i, b) ∈ (if (at_ l m).v = u then [(m, false)] else ([] : List (Nat × Bool))) ↔ (at_ l m).v = u ∧ i = m ∧ b = false := by split <;> simp [*]
    have e2 : (i, b) ∈ (if (at_ l m).u = u then [(m, true)] else ([] : List (Nat × Bool))) ↔ (at_ l m).u = u ∧ i = m ∧ b = true := by split <;> simp [*]
    rw [e1, e2]
    constructor
    · rintro (⟨h1, h2⟩ | ⟨h1, rfl, rfl⟩ | ⟨h1, rfl, rfl⟩)
      · exact ⟨by omega, h2⟩
      · exact ⟨by omega, h1⟩
      · exact ⟨by omega, h1⟩
    · rintro ⟨h1, h2⟩
      by_cases h : i < m
      · exact .inl ⟨h, h2⟩
      · obtain rfl : i = m := by omega
        cases b
        · exact .inr (.inl ⟨h2, rfl, rfl⟩)
        · exact .inr (.inr ⟨h2, rfl, rfl⟩)

theorem ends_ev (n : Int) (l : List S67) (i : Nat) (b : Bool) (hi : i < l.length) : impl_step_ends.f (i : Int) b n l = some (sFrom (arcs l) i b, sTo (arcs l) i b) := by
  have h0 := at_0 l (i : Int)
  have h1 := at_1 l (i : Int)
  rw [Int.toNat_natCast] at h0 h1
  unfold impl_step_ends.f
  rw [if_pos (by omega), if_pos (by omega), h0, h1]
  cases b
  · rw [if_neg (by simp)]; rfl
  · rw [if_pos rfl]; rfl

theorem room_ev (n : Int) (l : List S67) (f : List Int) (i : Nat) (b : Bool) (hi : i < l.length) (hf : f.length = l.length) (hw : -1000 ≤ sRoom (arcs l) f i b ∧ sRoom (arcs l) f i b ≤ 1000) : impl_step_room.f (i : Int) b n l f = some (sRoom (arcs l) f i b) := by
  have h2 := at_2 l (i : Int)
  have ef : rd f (i : Int) = f.getD i 0 := by unfold rd; rw [Int.toNat_natCast]
  rw [Int.toNat_natCast] at h2
  unfold impl_step_room.f
  unfold sRoom at hw ⊢
  cases b
  · simp only [Bool.false_eq_true, if_false] at hw ⊢
    rw [if_pos (by omega), if_pos (by omega), if_pos (by omega), h2, ef, w64 (by omega) (by omega)]
  · simp only [if_true] at hw ⊢
    rw [if_pos (by omega), if_pos (by omega), ef]

/-- the rows behind i arcs -/
structure Rows2 (l : List Arc) (N : Nat) (i : Nat) (L E : List (List S79)) : Prop where
  l1 : L.length = N
  l2 : E.length = N
  g1 : ∀ u : Nat, u < N → L.getD u [] = (outL l u i).map toS
  g2 : ∀ u : Nat, u < N → E.getD u [] = (inL l u i).map toS

theorem stepsOf_l0 {n : Int} {l : List S67} (hn : NetOk n (arcs l)) (hl : l.length ≤ 1048576) (d : Nat) : ∀ (i : Nat) (L E : List (List S79)), i + d = l.length → Rows2 (arcs l) n.toNat i L E → ∃ L' E', Ev (fun k => impl_stepsOf.l0 k L E (l.length : Int) i n l) (L', E') ∧ Rows2 (arcs l) n.toNat l.length L' E' := by
  induction d with
  | zero =>
    intro i L E hi R
    obtain rfl : i = l.length := by omega
    exact ⟨L, E, Ev.step (f := fun _ => some (L, E)) (fun k => by rw [impl_stepsOf.l0, if_neg (by omega)]) (Ev.now _), R⟩
  | succ d ih =>
    intro i L E hi R
    have hil : i < l.length := by omega
    have ha := hn.2 i (by rw [arcs_len]; exact hil)
    obtain ⟨a1, a2, a3, a4, a5, _⟩ := ha
    have hw : wrap64 ((i : Int) + 1) = ((i + 1 : Nat) : Int) := by rw [w64 (by omega) (by omega)]; omega
    have n2 := hn.1.1
    generalize hU : (at_ (arcs l) i).u = U at *
    generalize hV : (at_ (arcs l) i).v = V at *
    have hUt : ((U.toNat : Nat) : Int) = U := by omega
    have hVt : ((V.toNat : Nat) : Int) = V := by omega
    have lo := fun u => outL_len (arcs l) u i
    have li := fun u => inL_len (arcs l) u i
    -- the rows behind both steps
    have R' : Rows2 (arcs l) n.toNat (i + 1) ((L.set U.toNat (L.getD U.toNat [] ++ [toS (i, false)])).set V.toNat ((L.set U.toNat (L.getD U.toNat [] ++ [toS (i, false)])).getD V.toNat [] ++ [toS (i, true)])) ((E.set V.toNat (E.getD V.toNat [] ++ [toS (i, false)])).set U.toNat ((E.set V.toNat (E.getD V.toNat [] ++ [toS (i, false)])).getD U.toNat [] ++ [toS (i, true)])) := by
      refine ⟨by simp [R.l1], by simp [R.l2], fun u hu => ?_, fun u hu => ?_⟩
      · rw [getD_set _ _ _ _ _ (by simp [R.l1]; omega), getD_set _ _ _ _ _ (by rw [R.l1]; omega), getD_set _ _ _ _ _ (by rw [R.l1]; omega)]
        rw [outL, hU, hV, List.map_append, List.map_append, ← R.g1 u hu]
        by_cases c1 : u = V.toNat
        · subst c1
          rw [if_pos rfl, if_neg (by omega), if_neg (show ¬ U = ((V.toNat : Nat) : Int) by omega), if_pos (show V = ((V.toNat : Nat) : Int) by omega)]
          rfl
        · rw [if_neg c1, if_neg (show ¬ V = (u : Int) by omega)]
          by_cases c2 : u = U.toNat
          · subst c2
            rw [if_pos rfl, if_pos (show U = ((U.toNat : Nat) : Int) by omega)]
            simp
          · rw [if_neg c2, if_neg (show ¬ U = (u : Int) by omega)]
            simp
      · rw [getD_set _ _ _ _ _ (by simp [R.l2]; omega), getD_set _ _ _ _ _ (by rw [R.l2]; omega), getD_set _ _ _ _ _ (by rw [R.l2]; omega)]
        rw [inL, hU, hV, List.map_append, List.map_append, ← R.g2 u hu]
        by_cases c1 : u = U.toNat
        · subst c1
          rw [if_pos rfl, if_neg (by omega), if_neg (show ¬ V = ((U.toNat : Nat) : Int) by omega), if_pos (show U = ((U.toNat : Nat) : Int) by omega)]
          rfl
        · rw [if_neg c1, if_neg (show ¬ U = (u : Int) by omega)]
          by_cases c2 : u = V.toNat
          · subst c2
            rw [if_pos rfl, if_pos (show V = ((V.toNat : Nat) : Int) by omega)]
            simp
          · rw [if_neg c2, if_neg (show ¬ V = (u : Int) by omega)]
            simp
    obtain ⟨L', E', h1, h2⟩ := ih (i + 1) _ _ (by omega) R'
    refine ⟨L', E', ?_, h2⟩
    have lL : ∀ u : Nat, u < n.toNat → (L.getD u []).length ≤ 2097152 := fun u hu => by rw [R.g1 u hu, List.length_map]; have := lo u; omega
    have lE : ∀ u : Nat, u < n.toNat → (E.getD u []).length ≤ 2097152 := fun u hu => by rw [R.g2 u hu, List.length_map]; have := li u; omega
    have ef := ends_ev n l i false hil
    have et := ends_ev n l i true hil
    have f1 : sFrom (arcs l) i false = U := hU
    have f2 : sTo (arcs l) i false = V := hV
    have f3 : sFrom (arcs l) i true = V := hV
    have f4 : sTo (arcs l) i true = U := hU
    rw [f1, f2] at ef
    rw [f3, f4] at et
    have rL : ∀ (X : List (List S79)) (z : Int), rd_L5 X z = X.getD z.toNat [] := fun X z => rfl
    have w1 : wrap64 ((0 : Int) + 1) = 1 := by rw [w64 (by omega) (by omega)]; rfl
    have w2 : wrap64 ((1 : Int) + 1) = 2 := by rw [w64 (by omega) (by omega)]; rfl
    have p0 : rd_T79 [(⟨(i : Int), false⟩ : S79), (⟨(i : Int), true⟩ : S79)] 0 = ⟨(i : Int), false⟩ := rfl
    have p1 : rd_T79 [(⟨(i : Int), false⟩ : S79), (⟨(i : Int), true⟩ : S79)] 1 = ⟨(i : Int), true⟩ := rfl
    have pl : (([(⟨(i : Int), false⟩ : S79), (⟨(i : Int), true⟩ : S79)] : List S79).length : Int) = 2 := rfl
    refine Ev.step (fun k => by rw [impl_stepsOf.l0, if_pos (by omega), Option.bind_some, pl]) ?_
    refine Ev.step (fun k => by conv => lhs; rw [impl_stepsOf.l1, if_pos (by omega), if_pos (by omega), pl, if_pos (by omega), p0]; dsimp only; rw [ef, Option.bind_some]; dsimp only; rw [if_pos a1, if_pos (by rw [R.l1]; omega), rL, if_pos (by have := lL U.toNat (by omega); omega), if_pos a3, if_pos (by rw [R.l2]; omega), rL, if_pos (by have := lE V.toNat (by omega); omega), w1]) ?_
    refine Ev.step (fun k => by conv => lhs; rw [impl_stepsOf.l1, if_pos (by omega), if_pos (by omega), pl, if_pos (by omega), p1]; dsimp only; rw [et, Option.bind_some]; dsimp only; rw [if_pos a3, if_pos (by rw [List.length_set, R.l1]; omega), rL, if_pos (by rw [getD_set _ _ _ _ _ (by rw [R.l1]; omega), if_neg (by omega)]; have := lL V.toNat (by omega); omega), if_pos a1, if_pos (by rw [List.length_set, R.l2]; omega), rL, if_pos (by rw [getD_set _ _ _ _ _ (by rw [R.l2]; omega), if_neg (by omega)]; have := lE U.toNat (by omega); omega), w2]) ?_
    exact Ev.step (fun k => by rw [impl_stepsOf.l1, if_neg (by omega), hw]; rfl) h1

theorem stepsOf_ev {n : Int} {l : List S67} (hn : NetOk n (arcs l)) (hl : l.length ≤ 1048576) : ∃ L E, Ev (fun k => impl_stepsOf.f k n l) (L, E) ∧ Rows2 (arcs l) n.toNat l.length L E := by
  have n2 := hn.1.1
  have n3 := hn.1.2.1
  obtain ⟨L, E, h1, h2⟩ := stepsOf_l0 hn hl l.length 0 (List.replicate n.toNat []) (List.replicate n.toNat []) (Nat.zero_add _) ⟨by simp, by simp, fun u hu => by
    rw [List.getD_eq_getElem?_getD, List.getElem?_replicate, if_pos hu]; rfl, fun u hu => by
    rw [List.getD_eq_getElem?_getD, List.getElem?_replicate, if_pos hu]; rfl⟩
  rw [show ((0 : Nat) : Int) = 0 from rfl] at h1
  exact ⟨L, E, Ev.congr (fun k => by unfold impl_stepsOf.f; rw [if_pos (by omega), if_pos (by omega)]) h1, h2⟩

/-! reading the rows of steps -/
theorem rdOf_eq (xs : List Bool) (i : Int) : rdOf false xs i = xs.getD i.toNat false := rfl

theorem room_bound {n : Int} {l : List Arc} {f : List Int} (hn : NetOk n l) (hr : InRoom l f) {i : Nat} (hi : i < l.length) (b : Bool) : -1000 ≤ sRoom l f i b ∧ sRoom l f i b ≤ 1000 := by
  have a := hr i hi
  have c := (hn.2 i hi).2.2.2.2.2
  unfold sRoom
  cases b
  · simp only [Bool.false_eq_true, if_false]; omega
  · simp only [if_true]; omega

theorem toS_get (row : List (Nat × Bool)) (j : Nat) (hj : j < row.length) : rd_T79 (row.map toS) (j : Int) = ⟨((row.getD j (0, false)).1 : Int), (row.getD j (0, false)).2⟩ := by
  unfold rd_T79
  rw [Int.toNat_natCast, List.getD_eq_getElem?_getD, List.getD_eq_getElem?_getD, List.getElem?_map, List.getElem?_eq_getElem hj]
  rfl

theorem row_mem {row : List (Nat × Bool)} {j : Nat} (hj : j < row.length) : row.getD j (0, false) ∈ row := by
  rw [List.getD_eq_getElem?_getD, List.getElem?_eq_getElem hj]
  exact List.getElem_mem hj

theorem row_take {row : List (Nat × Bool)} {j : Nat} (hj : j < row.length) {s : Nat × Bool} (h : s ∈ row.take (j + 1)) : s ∈ row.take j ∨ s = row.getD j (0, false) := by
  rw [List.take_add_one, List.getElem?_eq_getElem hj, List.mem_append] at h
  rw [List.getD_eq_getElem?_getD, List.getElem?_eq_getElem hj]
  rcases h with h | h
  · exact .inl h
  · exact .inr (by simpa using h)

/-! what Cheapest answers -/
theorem INF_eq : INF = 1152921504606846976 := rfl

def RunIs (n : Int) (l : List Arc) : Nat → List Int → List Int × Int × Bool → Prop
  | 0, f, r => r = (f, costTo l f l.length, true)
  | m + 1, f, r => (∃ S P d, Pot n l f S P ∧ Fin n l f S P d ∧ d.getD 1 0 = INF ∧ r = ([], 0, false)) ∨
      (∃ S P d p, Pot n l f S P ∧ Fin n l f S P d ∧ d.getD 1 0 < INF ∧ PathL l p 1 ∧ Follow l (ByT l f d) p 1 ∧ (p.map Prod.fst).Nodup ∧ p.length < n.toNat ∧ (∀ s, s ∈ p → 0 < sRoom l f s.1 s.2) ∧ RunIs n l m (pushAll f p 1) r)

def RunTop (n : Int) (l : List Arc) (size : Int) (r : List Int × Int × Bool) : Prop :=
  (¬ (NetOk n l ∧ 0 ≤ size ∧ size ≤ 16) ∧ r = ([], 0, false)) ∨ (NetOk n l ∧ 0 ≤ size ∧ size ≤ 16 ∧ RunIs n l size.toNat (List.replicate l.length 0) r)

/-- the flow that nothing goes through, and its potential -/
theorem zero_start {n : Int} {l : List Arc} (h : NetOk n l) : FlowOk n l (List.replicate l.length 0) ∧ Pot n l (List.replicate l.length 0) (fun _ => true) (fun _ => 0) := by
  have hz : ∀ i : Nat, (List.replicate l.length (0 : Int)).getD i 0 = 0 := fun i => by
    rw [List.getD_eq_getElem?_getD, List.getElem?_replicate]; split <;> rfl
  have he : ∀ x : Int, exc l (List.replicate l.length 0) l.length x = 0 := fun x => by
    unfold exc
    exact (sumTo_congr (g := fun _ => 0) (fun i _ => by rw [hz]; split <;> split <;> rfl)).trans (sumTo_zero l.length)
  exact ⟨⟨h, by simp, fun i hi => by rw [hz]; have := (h.2 i hi).2.2.2.2.2; omega, fun x _ _ => he x⟩, start_pot h (by simp) (fun i _ => hz i)⟩

theorem flow_small {n : Int} {l : List Arc} {f : List Int} (hF : FlowOk n l f) (j : Nat) : -20 ≤ f.getD j 0 ∧ f.getD j 0 ≤ 20 := by
  by_cases hj : j < l.length
  · have a := hF.2.2.1 j hj
    have b := (hF.1.2 j hj).2.2.2.2.2
    omega
  · have := hF.2.1
    rw [List.getD_eq_getElem?_getD, List.getElem?_eq_none (by omega)]
    simp

/-- the first tight step, found in the row of the steps that enter a node -/
theorem ft_find {n : Int} {l : List Arc} (hn : NetOk n l) (f d : List Int) (v m : Nat) (hm : m ≤ l.length) (inL : Nat → List (Nat × Bool)) (h0 : inL 0 = []) (h1 : ∀ m, inL (m + 1) = inL m ++ ((if (at_ l m).v = (v : Int) then [(m, false)] else []) ++ (if (at_ l m).u = (v : Int) then [(m, true)] else []))) : (inL m).find? (tb l f d v) = ft l f d v m := by
  induction m with
  | zero => rw [h0]; rfl
  | succ m ih =>
    have hi : m < l.length := by omega
    obtain ⟨a1, a2, a3, a4, _⟩ := hn.2 m hi
    rw [h1, List.find?_append, ih (by omega), ft]
    cases e : ft l f d v m with
    | some s => rfl
    | none =>
      have tf : tb l f d v (m, false) = true → (at_ l m).v = (v : Int) := fun h => by
        have : (at_ l m).v.toNat = v := (boolP_iff.1 h).2.1
        omega
      have tt : tb l f d v (m, true) = true → (at_ l m).u = (v : Int) := fun h => by
        have : (at_ l m).u.toNat = v := (boolP_iff.1 h).2.1
        omega
      show (none : Option (Nat × Bool)).or _ = _
      rw [Option.none_or]
      have F1 : (if (at_ l m).v = (v : Int) then [(m, false)] else ([] : List (Nat × Bool))).find? (tb l f d v) = if tb l f d v (m, false) = true then some (m, false) else none := by
        by_cases c : (at_ l m).v = (v : Int)
        · rw [if_pos c, List.find?_cons]
          cases hb : tb l f d v (m, false) <;> simp
        · rw [if_neg c, if_neg (fun h => c (tf h))]; rfl
      have F2 : (if (at_ l m).u = (v : Int) then [(m, true)] else ([] : List (Nat × Bool))).find? (tb l f d v) = if tb l f d v (m, true) = true then some (m, true) else none := by
        by_cases c : (at_ l m).u = (v : Int)
        · rw [if_pos c, List.find?_cons]
          cases hb : tb l f d v (m, true) <;> simp
        · rw [if_neg c, if_neg (fun h => c (tt h))]; rfl
      rw [List.find?_append, F1, F2]
      by_cases c1 : tb l f d v (m, false) = true
      · rw [if_pos c1, if_pos c1]; rfl
      · rw [if_neg c1, if_neg c1]; rfl

/-! impl.distances: a queue of nodes to relax from -/


theorem length_ev {n : Int} {l : List S67} (hn : NetOk n (arcs l)) {i : Nat} (b : Bool) (hi : i < l.length) : impl_step_length.f (i : Int) b n l = some (sLen (arcs l) i b) := by
  have h3 := at_3 l (i : Int)
  rw [Int.toNat_natCast] at h3
  have hc := (hn.2 i (by rw [arcs_len]; exact hi)).2.2.2.2.2.2.2
  unfold impl_step_length.f sLen sCost
  rw [if_pos (by omega), if_pos (by omega), h3]
  generalize (at_ (arcs l) i).c = c at hc
  cases b
  · rw [if_neg (by simp), w64 (x := 10000 * c) (by omega) (by omega), w64 (by omega) (by omega)]
    rfl
  · rw [if_pos rfl, w64 (x := 10000 * c) (by omega) (by omega), w64 (by omega) (by omega), if_pos rfl]
    congr 1
    omega

section
variable {n : Int} {l : List S67} {f : List Int} {S : Nat → Bool} {P : Nat → Int} {L E : List (List S79)}

/-- a label and a step's length stay small -/
theorem lab_small {d : List Int} (hn : NetOk n (arcs l)) (hp : Pot n (arcs l) f S P) (a : Lab n (arcs l) f S P d) {x : Nat} (hx : x < n.toNat) : -3000000000 ≤ d.getD x 0 ∧ d.getD x 0 ≤ INF := by
  refine ⟨?_, a.hi x hx⟩
  have h0 := hp.bound 0 hp.zero
  rcases Int.lt_or_le (d.getD x 0) INF with h | h
  · obtain ⟨h1, h2⟩ := a.lo x hx h
    have h3 := hp.bound x h1
    omega
  · rw [INF_eq] at h; omega

theorem len_small (hn : NetOk n (arcs l)) {i : Nat} (hi : i < (arcs l).length) (b : Bool) : -1000000 ≤ sLen (arcs l) i b ∧ sLen (arcs l) i b ≤ 1000001 := by
  have := (Go.Proofs.Ytgkpgigoonhgdaa.MDist.ends_ok hn hi b).2.2.2.2.2
  unfold sLen
  omega

theorem dist_l2 (hn : NetOk n (arcs l)) (hl : l.length ≤ 1048576) (hf : f.length = l.length) (hr : InRoom (arcs l) f) (hp : Pot n (arcs l) f S P) (h : Int) (v : Nat) (M : Int) (G : List Int → Prop)
    (next : ∀ d W T, Scn n (arcs l) f S P v (fun i b => (i, b) ∈ outL (arcs l) v l.length) d W T → 2 * sumD n d + T.length ≤ M → ∃ r, Ev (fun k => impl_distances.l1 k L f d W T n l) r ∧ G r) (m : Nat) :
    ∀ (j : Nat) d W T, j + m = (outL (arcs l) v l.length).length → Scn n (arcs l) f S P v (fun i b => (i, b) ∈ (outL (arcs l) v l.length).take j) d W T → 2 * sumD n d + T.length ≤ M →
      ∃ r, Ev (fun k => impl_distances.l2 k L f d W (h :: T) v ((outL (arcs l) v l.length).map toS) ((outL (arcs l) v l.length).length : Int) j n l) r ∧ G r := by
  have hrl := outL_len (arcs l) v l.length
  have n15 := hn.1.2.1
  induction m with
  | zero =>
    intro j d W T hj q hM
    have hjl : j = (outL (arcs l) v l.length).length := by omega
    rw [hjl, List.take_length] at q
    obtain ⟨r, h1, h2⟩ := next d W T q hM
    refine ⟨r, Ev.step (fun k => ?_) h1, h2⟩
    rw [impl_distances.l2, if_neg (by omega), if_pos (by rw [List.length_cons]; omega)]
    rfl
  | succ m ih =>
    intro j d W T hj q hM
    have hjl : j < (outL (arcs l) v l.length).length := by omega
    have hmem := row_mem hjl
    have hget := toS_get (outL (arcs l) v l.length) j hjl
    have htk : ∀ s, s ∈ (outL (arcs l) v l.length).take (j + 1) → s ∈ (outL (arcs l) v l.length).take j ∨ s = (outL (arcs l) v l.length).getD j (0, false) := fun s hs => row_take hjl hs
    have hj1 : j + 1 + m = (outL (arcs l) v l.length).length := by omega
    have hw : wrap64 ((j : Int) + 1) = ((j + 1 : Nat) : Int) := by rw [w64 (by omega) (by omega)]; omega
    have hjlt : (j : Int) < ((outL (arcs l) v l.length).length : Int) := by omega
    have hj0 : (0 : Int) ≤ (j : Int) := by omega
    generalize hs : (outL (arcs l) v l.length).getD j (0, false) = s at hmem hget htk
    obtain ⟨i, b⟩ := s
    obtain ⟨hi, hfr⟩ := (mem_outL (arcs l) v l.length i b).1 hmem
    have hia : i < (arcs l).length := by rw [arcs_len]; exact hi
    obtain ⟨e1, e2, e3, e4, e5, _⟩ := Go.Proofs.Ytgkpgigoonhgdaa.MDist.ends_ok hn hia b
    have hdl := q.lab.len
    have hto0 : 0 ≤ sTo (arcs l) i b := by clear hw hj1 hj; omega
    have hto1 : sTo (arcs l) i b < (d.length : Int) := by clear hw hj1 hj; rw [hdl]; omega
    have hto2 : sTo (arcs l) i b < (W.length : Int) := by clear hw hj1 hj; rw [q.wl]; omega
    have hv1 : (v : Int) < (d.length : Int) := by clear hw hj1 hj; rw [hdl]; have := q.vn; omega
    have hTl : (h :: T).length < 17592186044416 := by
      have a1 := q.cnt
      have a2 := (unseen_bound n.toNat W).1
      clear hw hj1 hj
      rw [List.length_cons]
      omega
    have hfv : fr (arcs l) i b = v := by unfold fr; rw [hfr]; exact Int.toNat_natCast v
    have he := ends_ev n l i b hi
    have hle := length_ev hn b hi
    have hrm := room_ev n l f i b hi hf (room_bound hn hr hia b)
    have hls := len_small hn hia b
    have hds := lab_small hn hp q.lab q.vn
    have hdt := lab_small hn hp q.lab e4
    have er : rd d (v : Int) = d.getD v 0 := by unfold rd; rw [Int.toNat_natCast]
    have et : rd d (sTo (arcs l) i b) = d.getD (tw (arcs l) i b) 0 := rfl
    have hwd : wrap64 (d.getD v 0 + sLen (arcs l) i b) = d.getD v 0 + sLen (arcs l) i b := by
      rw [INF_eq] at hds
      exact w64 (by omega) (by omega)
    have hr0 := hr i hia
    have rn : 0 ≤ sRoom (arcs l) f i b := by
      unfold sRoom
      cases b
      · simp only [Bool.false_eq_true, if_false]; omega
      · simp only [if_true]; omega
    -- the set of the steps that were scanned
    have conv : ∀ {d W T}, Scn n (arcs l) f S P v (fun j' c => (j', c) ∈ (outL (arcs l) v l.length).take j ∨ (j' = i ∧ c = b)) d W T → Scn n (arcs l) f S P v (fun i b => (i, b) ∈ (outL (arcs l) v l.length).take (j + 1)) d W T := fun q' =>
      { q' with
        conv := fun j' c hj' hr' hu' => by
          rcases q'.conv j' c hj' hr' hu' with x | x | ⟨x, y⟩
          · exact .inl x
          · exact .inr (.inl x)
          · refine .inr (.inr ⟨x, fun z => y ?_⟩)
            rcases htk _ z with z | z
            · exact .inl z
            · exact .inr ⟨(Prod.mk.inj z).1, (Prod.mk.inj z).2⟩ }
    have skip : (0 < sRoom (arcs l) f i b → d.getD (tw (arcs l) i b) 0 ≤ d.getD v 0 + sLen (arcs l) i b) → ∃ r, Ev (fun k => impl_distances.j3 k L f d W (h :: T) v (sTo (arcs l) i b) (d.getD v 0 + sLen (arcs l) i b) ((outL (arcs l) v l.length).map toS) ((outL (arcs l) v l.length).length : Int) j true n l) r ∧ G r := fun hx => by
      obtain ⟨r, h1, h2⟩ := ih (j + 1) d W T hj1 (conv (q.skip (i := i) (b := b) (fun a _ => hx a))) hM
      exact ⟨r, Ev.step (fun k => by rw [impl_distances.j3, if_pos rfl, hw]) h1, h2⟩
    have front : ∀ (t : Bool), (sRoom (arcs l) f i b = 0 → t = true) → (¬ sRoom (arcs l) f i b = 0 → t = decide (d.getD v 0 + sLen (arcs l) i b ≥ d.getD (tw (arcs l) i b) 0)) →
        (∃ r, Ev (fun k => impl_distances.j3 k L f d W (h :: T) v (sTo (arcs l) i b) (d.getD v 0 + sLen (arcs l) i b) ((outL (arcs l) v l.length).map toS) ((outL (arcs l) v l.length).length : Int) j t n l) r ∧ G r) →
        ∃ r, Ev (fun k => impl_distances.l2 k L f d W (h :: T) v ((outL (arcs l) v l.length).map toS) ((outL (arcs l) v l.length).length : Int) j n l) r ∧ G r := fun t t0 t1 hx => by
      obtain ⟨r, h1, h2⟩ := hx
      refine ⟨r, Ev.step (fun k => ?_) h1, h2⟩
      rw [impl_distances.l2, if_pos hjlt, if_pos hj0, if_pos (by rw [List.length_map]; exact hjlt), hget]
      dsimp only
      rw [he, Option.bind_some, if_pos (Int.natCast_nonneg v), if_pos hv1, hle, Option.bind_some, hrm, Option.bind_some]
      dsimp only
      rw [er, hwd]
      by_cases c0 : sRoom (arcs l) f i b = 0
      · rw [if_pos c0, t0 c0]
      · rw [if_neg c0, if_pos hto0, if_pos hto1, et, t1 c0]
    by_cases c0 : sRoom (arcs l) f i b = 0
    · exact front true (fun _ => rfl) (fun h => absurd c0 h) (skip (fun a => absurd c0 (Int.ne_of_gt a)))
    · by_cases c1 : d.getD v 0 + sLen (arcs l) i b ≥ d.getD (tw (arcs l) i b) 0
      · exact front true (fun _ => rfl) (fun _ => (decide_eq_true c1).symm) (skip (fun _ => c1))
      · refine front false (fun h => absurd h c0) (fun _ => (decide_eq_false c1).symm) ?_
        obtain ⟨q1, q2⟩ := q.relax hn hp hia (by clear hwd hle hrm hw hj1; omega) hfv (Int.not_le.1 c1)
        have hsum := sumD_set (d := d) hdl e4 (d.getD v 0 + sLen (arcs l) i b)
        have hsum1 : 2 * sumD n (d.set (tw (arcs l) i b) (d.getD v 0 + sLen (arcs l) i b)) + T.length ≤ M ∧ 2 * sumD n (d.set (tw (arcs l) i b) (d.getD v 0 + sLen (arcs l) i b)) + (T.length + 1 : Nat) ≤ M := by
          rw [hsum]
          clear hsum hwd hle hrm hw hj1
          omega
        by_cases cw : W.getD (tw (arcs l) i b) false = true
        · obtain ⟨r, h1, h2⟩ := ih (j + 1) _ W T hj1 (conv (q1 cw)) hsum1.1
          refine ⟨r, Ev.step (fun k => ?_) h1, h2⟩
          rw [impl_distances.j3, if_neg (by simp), if_pos hto0, if_pos hto1, Option.bind_some, if_pos hto2, if_pos (by show W.getD (tw (arcs l) i b) false = true; exact cw), hw]
          rfl
        · have cw' : W.getD (tw (arcs l) i b) false = false := by cases hx : W.getD (tw (arcs l) i b) false with
            | true => exact absurd hx cw
            | false => rfl
          obtain ⟨r, h1, h2⟩ := ih (j + 1) _ _ _ hj1 (conv (q2 cw')) (by rw [List.length_append, List.length_singleton]; exact hsum1.2)
          refine ⟨r, Ev.step (fun k => ?_) h1, h2⟩
          rw [impl_distances.j3, if_neg (by simp), if_pos hto0, if_pos hto1, Option.bind_some, if_pos hto2, if_neg (by show ¬ W.getD (tw (arcs l) i b) false = true; exact cw), if_pos hTl, hw, ← e2]
          rfl

theorem dist_l1 (hn : NetOk n (arcs l)) (hl : l.length ≤ 1048576) (hf : f.length = l.length) (hr : InRoom (arcs l) f) (hp : Pot n (arcs l) f S P) (R : Rows2 (arcs l) n.toNat l.length L E) (m : Nat) : ∀ d W Q, Que n (arcs l) f S P d W Q → 2 * sumD n d + Q.length ≤ m → ∃ r, Ev (fun k => impl_distances.l1 k L f d W Q n l) r ∧ Fin n (arcs l) f S P r := by
  induction m with
  | zero =>
    intro d W Q q hm
    have hs := sumD_nonneg hp q.lab
    have hQ : Q = [] := List.eq_nil_of_length_eq_zero (by omega)
    subst hQ
    exact ⟨d, Ev.step (f := fun _ => some d) (fun k => by rw [impl_distances.l1, if_neg (by simp)]) (Ev.now _), q.fin⟩
  | succ m ih =>
    intro d W Q q hm
    cases Q with
    | nil => exact ⟨d, Ev.step (f := fun _ => some d) (fun k => by rw [impl_distances.l1, if_neg (by simp)]) (Ev.now _), q.fin⟩
    | cons h T =>
      have hh := q.rng h (List.mem_cons_self ..)
      have q0 := q.take
      have hlen : ((h :: T).length : Int) = T.length + 1 := by rw [List.length_cons]; omega
      have hLg := R.g1 h.toNat (by omega)
      have hvi : ((h.toNat : Nat) : Int) = h := by omega
      obtain ⟨r, h1, h2⟩ := dist_l2 (L := L) hn hl hf hr hp h h.toNat (2 * sumD n d + T.length) (Fin n (arcs l) f S P) (fun d' W' T' q' hM => ih d' W' T' (q'.done (fun i b hi hfr => (mem_outL (arcs l) _ l.length i b).2 ⟨by rw [arcs_len] at hi; exact hi, by
        have := (Go.Proofs.Ytgkpgigoonhgdaa.MDist.ends_ok hn hi b).1
        omega⟩)) (by omega)) (outL (arcs l) h.toNat l.length).length 0 d (W.set h.toNat false) T (Nat.zero_add _) { q0 with
         conv := fun i b hi hr hu => by
          rcases q0.conv i b hi hr hu with x | x | ⟨x, y⟩
          · exact .inl x
          · exact .inr (.inl x)
          · exact .inr (.inr ⟨x, fun z => by rw [List.take_zero] at z; cases z⟩) } (Int.le_refl _)
      rw [show ((0 : Nat) : Int) = 0 from rfl, hvi] at h1
      refine ⟨r, Ev.step (fun k => ?_) h1, h2⟩
      have e0 : rd (h :: T) 0 = h := rfl
      have eL : rd_L5 L h = (outL (arcs l) h l.length).map toS := by
        unfold rd_L5
        rw [hLg, hvi]
      have hlm : (((outL (arcs l) h l.length).map toS).length : Int) = ((outL (arcs l) h l.length).length : Int) := by rw [List.length_map]
      rw [impl_distances.l1, if_pos (by omega), if_pos (by omega), e0, if_pos hh.1, if_pos (by rw [q.wl]; omega), if_pos (by rw [R.l1]; omega), eL, hlm]

theorem dist_l0 (hn : NetOk n (arcs l)) (m : Nat) : ∀ (i : Nat) (d : List Int) (W : List Bool), 1 ≤ i → i + m = n.toNat → d.length = n.toNat → d.getD 0 0 = 0 → (∀ x, 0 < x → x < i → d.getD x 0 = INF) →
    ∃ d', d'.length = n.toNat ∧ d'.getD 0 0 = 0 ∧ (∀ x, 0 < x → x < n.toNat → d'.getD x 0 = INF) ∧ ∀ r, Ev (fun k => impl_distances.l1 k L f d' W [0] n l) r → Ev (fun k => impl_distances.l0 k L f d W i n l) r := by
  have n15 := hn.1.2.1
  induction m with
  | zero =>
    intro i d W h1 hi hd h0 hx
    exact ⟨d, hd, h0, fun x a b => hx x a (by omega), fun r h => Ev.step (fun k => by rw [impl_distances.l0, if_neg (by omega)]) h⟩
  | succ m ih =>
    intro i d W h1 hi hd h0 hx
    have hw : wrap64 ((i : Int) + 1) = ((i + 1 : Nat) : Int) := by rw [w64 (by omega) (by omega)]; omega
    have hset : ∀ x : Nat, (d.set i INF).getD x 0 = if x = i then INF else d.getD x 0 := fun x => getD_set _ _ _ _ _ (by omega)
    obtain ⟨d', g1, g2, g3, g4⟩ := ih (i + 1) (d.set i INF) W (by omega) (by omega) (by rw [List.length_set]; exact hd) (by rw [hset, if_neg (by omega)]; exact h0) (fun x a b => by
      rw [hset]
      split
      · rfl
      · exact hx x a (by omega))
    exact ⟨d', g1, g2, g3, fun r h => Ev.step (fun k => by rw [impl_distances.l0, if_pos (by omega), if_pos (by omega), if_pos (by omega), hw, Int.toNat_natCast, ← INF_eq]) (g4 r h)⟩

theorem distances_ev (hn : NetOk n (arcs l)) (hl : l.length ≤ 1048576) (hf : f.length = l.length) (hr : InRoom (arcs l) f) (hp : Pot n (arcs l) f S P) (R : Rows2 (arcs l) n.toNat l.length L E) : ∃ d, Ev (fun k => impl_distances.f k n l L f) d ∧ Fin n (arcs l) f S P d := by
  have n2 := hn.1.1
  have n15 := hn.1.2.1
  have h00 : (List.replicate n.toNat (0 : Int)).getD 0 0 = 0 := by
    rw [List.getD_eq_getElem?_getD, List.getElem?_replicate]; split <;> rfl
  obtain ⟨d0, g1, g2, g3, g4⟩ := dist_l0 (L := L) (f := f) (l := l) hn (n.toNat - 1) 1 (List.replicate n.toNat 0) (List.replicate n.toNat false) (Nat.le_refl _) (by omega) (by simp) h00 (fun x a b => by omega)
  have lab := Lab.start hn hp d0 g1 g2 g3
  have hrep : ∀ x : Nat, (List.replicate n.toNat false).getD x false = false := fun x => by
    rw [List.getD_eq_getElem?_getD, List.getElem?_replicate]; split <;> rfl
  have q : Que n (arcs l) f S P d0 (List.replicate n.toNat false) [0] := by
    refine ⟨lab, by simp, fun x hx => ?_, fun i b hi hr hu => ?_, fun h T e => ?_⟩
    · rw [List.mem_singleton.1 hx]
      exact ⟨Int.le_refl _, by omega, by show d0.getD 0 0 < INF; rw [g2, INF_eq]; omega⟩
    · have e3 := (Go.Proofs.Ytgkpgigoonhgdaa.MDist.ends_ok hn hi b).2.2.1
      by_cases c : fr (arcs l) i b = 0
      · exact .inr (by rw [c]; exact List.mem_singleton.2 rfl)
      · rw [g3 _ (by omega) e3] at hu
        exact absurd hu (Int.lt_irrefl _)
    · obtain ⟨rfl, rfl⟩ := List.cons.inj e
      have hs0 : (List.replicate n.toNat false).set (0 : Int).toNat false = List.replicate n.toNat false := by
        show (List.replicate n.toNat false).set 0 false = _
        rw [List.set_replicate_self]
      rw [hs0]
      refine ⟨List.nodup_nil, fun x hx => ?_, by rw [unseen_all]; simp⟩
      rw [hrep]
      constructor
      · intro h; cases h
      · intro h; cases h
  obtain ⟨r, h1, h2⟩ := dist_l1 (L := L) (E := E) hn hl hf hr hp R (2 * sumD n d0 + 1).toNat d0 _ [0] q (by
    have := sumD_nonneg hp lab
    rw [List.length_singleton]
    omega)
  have h3 := g4 r h1
  rw [show ((1 : Nat) : Int) = 1 from rfl] at h3
  exact ⟨r, Ev.congr (fun k => by unfold impl_distances.f; rw [if_pos (by omega), if_pos (by omega), if_pos (by omega)]) h3, h2⟩
end

/-! impl.costOf -/
theorem costOf_l0 {n : Int} {l : List S67} {f : List Int} (hn : NetOk n (arcs l)) (hf : f.length = l.length) (hr : InRoom (arcs l) f) (hm : l.length ≤ 1048576) (d : Nat) : ∀ i : Nat, i + d = l.length →
    Ev (fun k => impl_costOf.l0 k f (costTo (arcs l) f i) l (l.length : Int) i) (costTo (arcs l) f l.length) := by
  induction d with
  | zero =>
    intro i h
    obtain rfl : i = l.length := h
    exact Ev.step (f := fun _ => some _) (fun k => by rw [impl_costOf.l0, if_neg nlt_i]) (Ev.now _)
  | succ d ih =>
    intro i h
    have hi : i < l.length := by omega
    have hia : i < (arcs l).length := by rw [arcs_len]; exact hi
    have hif : i < f.length := by rw [hf]; exact hi
    obtain ⟨_, _, _, _, _, a6, a7, a8, a9⟩ := hn.2 i hia
    have hrm := hr i hia
    have p1 : f.getD i 0 * (at_ (arcs l) i).c ≤ 20 * 100 := Int.mul_le_mul (Int.le_trans hrm.2 a7) a9 a8 (by omega)
    have p2 : 0 ≤ f.getD i 0 * (at_ (arcs l) i).c := Int.mul_nonneg hrm.1 a8
    have hih := ih (i + 1) (by omega)
    refine Ev.step (fun k => ?_) hih
    have b2 := cost_bound hn hr (i + 1) hia
    have ti : ((i : Int)).toNat = i := Int.toNat_natCast i
    have e3 : (rd_T67 l (i : Int)).f3 = (at_ (arcs l) i).c := by rw [at_3, ti]
    have ef : rd f (i : Int) = f.getD i 0 := by unfold rd; rw [ti]
    have e : costTo (arcs l) f i + f.getD i 0 * (at_ (arcs l) i).c = costTo (arcs l) f (i + 1) := rfl
    rw [impl_costOf.l0, if_pos (lt_i hi), if_pos (ge_i i), if_pos (lt_i hi), if_pos (lt_i hif), ef, e3, w64s p2 p1 lt2000, e, w64s b2.1 b2.2 lt6400, next_i hi hm]

theorem costOf_ev {n : Int} {l : List S67} {f : List Int} (hn : NetOk n (arcs l)) (hf : f.length = l.length) (hr : InRoom (arcs l) f) : Ev (fun k => impl_costOf.f k n l f) (costTo (arcs l) f l.length) := by
  have h0 := costOf_l0 hn hf hr (by have := hn.1.2.2; rw [arcs_len] at this; omega) l.length 0 (Nat.zero_add _)
  rw [show costTo (arcs l) f 0 = 0 from rfl, show ((0 : Nat) : Int) = 0 from rfl] at h0
  exact Ev.congr (fun k => by unfold impl_costOf.f; rfl) h0

/-! impl.pushed -/
theorem pushed_step (l : List S67) (g : List Int) (i : Nat) (b : Bool) (D : Int) (hi : i < l.length) (hg : g.length = l.length) (hD : 0 ≤ D ∧ D ≤ 20) (hB : -1000000 ≤ g.getD i 0 ∧ g.getD i 0 ≤ 1000000) : impl_pushed.f g (i : Int) b D = some (push g i b D) := by
  have eg : rd g (i : Int) = g.getD i 0 := by unfold rd; rw [Int.toNat_natCast]
  have w1 : wrap64 (-D) = -D := w64 (by omega) (by omega)
  have w2 : wrap64 (g.getD i 0 + -D) = g.getD i 0 + -D := w64 (by omega) (by omega)
  have w3 : wrap64 (g.getD i 0 + D) = g.getD i 0 + D := w64 (by omega) (by omega)
  unfold impl_pushed.f
  cases b
  · rw [if_neg (by simp), if_pos (by omega), if_pos (by omega), eg, w3, Int.toNat_natCast]
    rfl
  · rw [if_pos rfl, if_pos (by omega), if_pos (by omega), eg, w1, w2, Int.toNat_natCast]
    rfl

/-! impl.Cheapest -/
section
variable {n : Int} {l : List S67} {f d : List Int} {S : Nat → Bool} {P : Nat → Int} {L E : List (List S79)} {r : List Int × Int × Bool}

theorem ci_l3 (hl : l.length ≤ 1048576) (x : Int) (p : List (Nat × Bool)) (hp : p.length ≤ 1500) (hlt : ∀ s, s ∈ p → s.1 < l.length) (m : Nat) : ∀ (j : Nat) (g : List Int) (B : Int), j + m = p.length → g.length = l.length → 0 ≤ B → B + m ≤ 1000000 → (∀ i : Nat, -B ≤ g.getD i 0 ∧ g.getD i 0 ≤ B) →
    Ev (fun k => impl_Cheapest.l0 k (wrap64 (x - 1)) L E (pushAll g (p.drop j) 1) n l) r → Ev (fun k => impl_Cheapest.l3 k x L E g (p.map toS) ((p.map toS).length : Int) j n l) r := by
  induction m with
  | zero =>
    intro j g B hj hg _ _ _ hr
    rw [List.drop_eq_nil_of_le (by omega)] at hr
    exact Ev.step (fun k => by rw [impl_Cheapest.l3, if_neg (by rw [List.length_map]; omega)]; rfl) hr
  | succ m ih =>
    intro j g B hj hg hB0 hB hgB hr
    have hjl : j < p.length := by omega
    have hw : wrap64 ((j : Int) + 1) = ((j + 1 : Nat) : Int) := by rw [w64 (by omega) (by omega)]; omega
    have hget := toS_get p j hjl
    have hmem := row_mem hjl
    rw [drop_cons p j (0, false) hjl] at hr
    generalize p.getD j (0, false) = s at hget hmem hr
    obtain ⟨i, b⟩ := s
    have hi := hlt _ hmem
    have hgi := hgB i
    have hps := pushed_step l g i b 1 hi hg (by omega) (by omega)
    have hrec := ih (j + 1) (push g i b 1) (B + 1) (by omega) (by rw [push_len]; exact hg) (by omega) (by omega) (fun q => by
      rw [push_get (by show i < g.length; rw [hg]; exact hi)]
      have := hgB q
      split
      · cases b
        · simp only [Bool.false_eq_true, if_false]; omega
        · simp only [if_true]; omega
      · omega) hr
    refine Ev.step (fun k => ?_) hrec
    rw [impl_Cheapest.l3, if_pos (by rw [List.length_map]; omega), if_pos (by omega), if_pos (by rw [List.length_map]; omega), hget]
    dsimp only
    rw [hps, Option.bind_some, hw]

theorem ci_l2 (hn : NetOk n (arcs l)) (hl : l.length ≤ 1048576) (hf : f.length = l.length) (hr : InRoom (arcs l) f) (hp : Pot n (arcs l) f S P) (a : Fin n (arcs l) f S P d) (x : Int) (acc : List S79) (hacc : acc.length ≤ 2000) (v : Nat) (hv : v < n.toNat) (i : Nat) (b : Bool)
    (next : Ev (fun k => impl_Cheapest.l1 k x L E f d (acc ++ [⟨(i : Int), b⟩]) (sFrom (arcs l) i b) n l) r) (m : Nat) :
    ∀ j : Nat, j + m = (inL (arcs l) v l.length).length → ((inL (arcs l) v l.length).drop j).find? (tb (arcs l) f d v) = some (i, b) → Ev (fun k => impl_Cheapest.l2 k x L E f d acc v ((inL (arcs l) v l.length).map toS) ((inL (arcs l) v l.length).length : Int) j n l) r := by
  have hrl := inL_len (arcs l) v l.length
  induction m with
  | zero =>
    intro j hj hfd
    rw [List.drop_eq_nil_of_le (by omega)] at hfd
    cases hfd
  | succ m ih =>
    intro j hj hfd
    have hjl : j < (inL (arcs l) v l.length).length := by omega
    have hj1 : j + 1 + m = (inL (arcs l) v l.length).length := by omega
    have hjlt : (j : Int) < ((inL (arcs l) v l.length).length : Int) := by omega
    have hj0 : (0 : Int) ≤ (j : Int) := by omega
    have hw : wrap64 ((j : Int) + 1) = ((j + 1 : Nat) : Int) := by rw [w64 (by omega) (by omega)]; omega
    have hmem := row_mem hjl
    have hget := toS_get (inL (arcs l) v l.length) j hjl
    rw [drop_cons _ j (0, false) hjl, List.find?_cons] at hfd
    generalize (inL (arcs l) v l.length).getD j (0, false) = s at hmem hget hfd
    obtain ⟨i', b'⟩ := s
    obtain ⟨hi, hto⟩ := (mem_inL (arcs l) v l.length i' b').1 hmem
    have hia : i' < (arcs l).length := by rw [arcs_len]; exact hi
    obtain ⟨e1, e2, e3, e4, _⟩ := Go.Proofs.Ytgkpgigoonhgdaa.MDist.ends_ok hn hia b'
    have hdl := a.len
    have f0 : 0 ≤ sFrom (arcs l) i' b' := by clear hw hj hj1; omega
    have f1 : sFrom (arcs l) i' b' < (d.length : Int) := by clear hw hj hj1; rw [hdl]; omega
    have v1 : (v : Int) < (d.length : Int) := by clear hw hj hj1; rw [hdl]; omega
    have htv : tw (arcs l) i' b' = v := by clear hw hj hj1; omega
    have he := ends_ev n l i' b' hi
    have hle := length_ev hn b' hi
    have hrm := room_ev n l f i' b' hi hf (room_bound hn hr hia b')
    have hls := len_small hn hia b'
    have hds := lab_small hn hp a.toLab e3
    have ef : rd d (sFrom (arcs l) i' b') = d.getD (fr (arcs l) i' b') 0 := rfl
    have ex : rd d (v : Int) = d.getD v 0 := by unfold rd; rw [Int.toNat_natCast]
    have hwd : wrap64 (d.getD (fr (arcs l) i' b') 0 + sLen (arcs l) i' b') = d.getD (fr (arcs l) i' b') 0 + sLen (arcs l) i' b' := by
      rw [INF_eq] at hds
      clear hw hj hj1
      exact w64 (by omega) (by omega)
    have hcap : acc.length < 8796093022208 := by clear hw hwd hj hj1; omega
    have no : ¬ Tight (arcs l) f d v i' b' → Ev (fun k => impl_Cheapest.l2 k x L E f d acc v ((inL (arcs l) v l.length).map toS) ((inL (arcs l) v l.length).length : Int) ((j + 1 : Nat) : Int) n l) r := fun h => by
      rw [show tb (arcs l) f d v (i', b') = false from boolP_false h] at hfd
      exact ih (j + 1) hj1 hfd
    have hd0 : ∀ k, impl_Cheapest.l2 (k + 1) x L E f d acc v ((inL (arcs l) v l.length).map toS) ((inL (arcs l) v l.length).length : Int) j n l = (if sRoom (arcs l) f i' b' > 0 then (if d.getD (fr (arcs l) i' b') 0 < 1152921504606846976 then (if d.getD (fr (arcs l) i' b') 0 + sLen (arcs l) i' b' = d.getD v 0 then (impl_Cheapest.l1 k x L E f d (acc ++ [⟨(i' : Int), b'⟩]) (sFrom (arcs l) i' b') n l) else (impl_Cheapest.l2 k x L E f d acc v ((inL (arcs l) v l.length).map toS) ((inL (arcs l) v l.length).length : Int) ((j + 1 : Nat) : Int) n l)) else (impl_Cheapest.l2 k x L E f d acc v ((inL (arcs l) v l.length).map toS) ((inL (arcs l) v l.length).length : Int) ((j + 1 : Nat) : Int) n l)) else (impl_Cheapest.l2 k x L E f d acc v ((inL (arcs l) v l.length).map toS) ((inL (arcs l) v l.length).length : Int) ((j + 1 : Nat) : Int) n l)) := fun k => by
      rw [impl_Cheapest.l2, if_pos hjlt, if_pos hj0, if_pos (by rw [List.length_map]; exact hjlt), hget]
      dsimp only
      rw [he, Option.bind_some, hrm, Option.bind_some]
      dsimp only
      rw [if_pos f0, if_pos f1, ef, hle, Option.bind_some, if_pos (Int.natCast_nonneg v), if_pos v1, hwd, ex, if_pos hcap, hw]
    by_cases c1 : sRoom (arcs l) f i' b' > 0
    · by_cases c2 : d.getD (fr (arcs l) i' b') 0 < 1152921504606846976
      · by_cases c3 : d.getD (fr (arcs l) i' b') 0 + sLen (arcs l) i' b' = d.getD v 0
        · rw [show tb (arcs l) f d v (i', b') = true from boolP_true ⟨hia, htv, c1, c2, c3⟩] at hfd
          obtain ⟨rfl, rfl⟩ := Prod.mk.inj (Option.some.inj hfd)
          exact Ev.step (fun k => by rw [hd0, if_pos c1, if_pos c2, if_pos c3]) next
        · exact Ev.step (fun k => by rw [hd0, if_pos c1, if_pos c2, if_neg c3]) (no (fun t => c3 t.2.2.2.2))
      · exact Ev.step (fun k => by rw [hd0, if_pos c1, if_neg c2]) (no (fun t => c2 t.2.2.2.1))
    · exact Ev.step (fun k => by rw [hd0, if_neg c1]) (no (fun t => c1 t.2.2.1))

theorem ci_l1 (hn : NetOk n (arcs l)) (hl : l.length ≤ 1048576) (hf : f.length = l.length) (hr : InRoom (arcs l) f) (hp : Pot n (arcs l) f S P) (a : Fin n (arcs l) f S P d) (R : Rows2 (arcs l) n.toNat l.length L E) (x : Int) (p : List (Nat × Bool)) : ∀ (v : Int) (q : List (Nat × Bool)), q.length + p.length ≤ 1500 → PathL (arcs l) p v → Follow (arcs l) (ByT (arcs l) f d) p v →
    Ev (fun k => impl_Cheapest.l3 k x L E f ((q ++ p).map toS) (((q ++ p).map toS).length : Int) 0 n l) r → Ev (fun k => impl_Cheapest.l1 k x L E f d (q.map toS) v n l) r := by
  induction p with
  | nil =>
    intro v q _ hpa _ h
    have hv : v = 0 := hpa
    rw [List.append_nil] at h
    exact Ev.step (fun k => by rw [impl_Cheapest.l1, if_pos hv]) h
  | cons s p ih =>
    intro v q hq hpa hfo h
    obtain ⟨i, b⟩ := s
    obtain ⟨hi, hto, hpa'⟩ := hpa
    obtain ⟨hv0, hby, hfo'⟩ := hfo
    obtain ⟨e1, e2, e3, e4, _⟩ := Go.Proofs.Ytgkpgigoonhgdaa.MDist.ends_ok hn hi b
    have hlen : ((i, b) :: p).length = p.length + 1 := List.length_cons
    have vi : ((v.toNat : Nat) : Int) = v := by have := hby.1; omega
    have vn : v.toNat < n.toNat := by rw [← hto, ← e2]; omega
    have hE := R.g2 v.toNat vn
    rw [vi] at hE
    have eL : rd_L5 E v = (inL (arcs l) v l.length).map toS := by
      unfold rd_L5
      exact hE
    have hlm : (((inL (arcs l) v l.length).map toS).length : Int) = ((inL (arcs l) v l.length).length : Int) := by rw [List.length_map]
    have hfind : (inL (arcs l) (v.toNat : Int) l.length).find? (tb (arcs l) f d v.toNat) = some (i, b) := by
      rw [ft_find hn f d v.toNat l.length (by rw [arcs_len]; exact Nat.le_refl _) (inL (arcs l) (v.toNat : Int)) rfl (fun _ => rfl), ← arcs_len]
      exact hby.2
    have hrec := ih (sFrom (arcs l) i b) (q ++ [(i, b)]) (by rw [List.length_append, List.length_singleton]; omega) hpa' hfo' (by rw [List.append_assoc]; exact h)
    rw [List.map_append] at hrec
    have h2 := ci_l2 (r := r) (L := L) (E := E) hn hl hf hr hp a x (q.map toS) (by rw [List.length_map]; omega) v.toNat vn i b hrec (inL (arcs l) (v.toNat : Int) l.length).length 0 (Nat.zero_add _) (by rw [List.drop_zero]; exact hfind)
    rw [vi, show ((0 : Nat) : Int) = 0 from rfl] at h2
    refine Ev.step (fun k => ?_) h2
    rw [impl_Cheapest.l1, if_neg hv0, if_pos hby.1, if_pos (by rw [R.l2]; omega), eL, hlm]

theorem ci_l0 (hn : NetOk n (arcs l)) (hl : l.length ≤ 1048576) (R : Rows2 (arcs l) n.toNat l.length L E) (m : Nat) : ∀ (f : List Int) (S : Nat → Bool) (P : Nat → Int), m ≤ 100 → FlowOk n (arcs l) f → Pot n (arcs l) f S P → ∃ r, Ev (fun k => impl_Cheapest.l0 k m L E f n l) r ∧ RunIs n (arcs l) m f r := by
  have n2 := hn.1.1
  have n15 := hn.1.2.1
  induction m with
  | zero =>
    intro f S P hm hF hp
    have hf : f.length = l.length := by have := hF.2.1; rw [arcs_len] at this; exact this
    have hc := costOf_ev hn hf hF.2.2.1
    refine ⟨(f, costTo (arcs l) f (arcs l).length, true), Ev.step (fun k => by rw [impl_Cheapest.l0, if_neg (by omega)]) (Ev.bind hc (Ev.of_eq fun k => by rw [arcs_len])), rfl⟩
  | succ m ih =>
    intro f S P hm hF hp
    have hf : f.length = l.length := by have := hF.2.1; rw [arcs_len] at this; exact this
    have hw : wrap64 (((m + 1 : Nat) : Int) - 1) = (m : Int) := by rw [w64 (by omega) (by omega)]; omega
    obtain ⟨d, hd, a⟩ := distances_ev (L := L) (E := E) hn hl hf hF.2.2.1 hp R
    have hdl : (1 : Int) < (d.length : Int) := by rw [a.len]; omega
    have e1 : rd d 1 = d.getD 1 0 := rfl
    have hhi := a.hi 1 (by omega)
    by_cases c : d.getD 1 0 = INF
    · refine ⟨([], 0, false), Ev.step (fun k => by rw [impl_Cheapest.l0, if_pos (by omega)]) (Ev.bind hd (Ev.of_eq fun k => by rw [if_pos hdl, e1, ← INF_eq, if_pos c])), .inl ⟨S, P, d, hp, a, c, rfl⟩⟩
    · have clt : d.getD 1 0 < INF := by omega
      obtain ⟨p, p1, p2, p3, p4, p5⟩ := tight_way hn hp a (ByT (arcs l) f d) (fun x hx h0 hf => byT_exists a hx h0 hf) (v := 1) (by omega) clt
      have p1' : PathL (arcs l) p 1 := p1
      have p2' : Follow (arcs l) (ByT (arcs l) f d) p 1 := p2
      obtain ⟨g1, g2⟩ := push_flow hF p p1' p3 1 (by omega) (fun s hs => by have := p5 s hs; omega)
      have hpot := next_pot hF hp a p p1' p3 (follow_tight p 1 p2')
      obtain ⟨r, h1, h2⟩ := ih _ _ _ (by omega) g1 hpot
      have hlt : ∀ s, s ∈ p → s.1 < l.length := fun s hs => by have := pathL_lt p 1 p1' s hs; rw [arcs_len] at this; exact this
      have h3 := ci_l3 (r := r) (n := n) (L := L) (E := E) hl ((m + 1 : Nat) : Int) p (by omega) hlt p.length 0 f 20 (Nat.zero_add _) hf (by omega) (by omega) (flow_small hF) (by rw [List.drop_zero, hw]; exact h1)
      rw [show ((0 : Nat) : Int) = 0 from rfl] at h3
      have h4 := ci_l1 (r := r) hn hl hf hF.2.2.1 hp a R ((m + 1 : Nat) : Int) p 1 [] (by rw [List.length_nil]; omega) p1' p2' h3
      refine ⟨r, Ev.step (fun k => by rw [impl_Cheapest.l0, if_pos (by omega)]) (Ev.bind hd (Ev.congr (fun k => by rw [if_pos hdl, e1, ← INF_eq, if_neg c]; rfl) h4)), .inr ⟨S, P, d, p, hp, a, clt, p1', p2', p3, p4, p5, h2⟩⟩

theorem iCheapest (n : Int) (l : List S67) (size : Int) (hl : l.length ≤ 1048576) : ∃ r, Ev (fun k => impl_Cheapest.f k n l size) r ∧ RunTop n (arcs l) size r := by
  have hN := iNetOk n l hl
  have bad : ¬ (NetOk n (arcs l) ∧ 0 ≤ size ∧ size ≤ 16) → ∀ t, t = true → Ev (fun k => impl_Cheapest.j0 k size t n l) ([], 0, false) := fun _ t ht => Ev.step (f := fun _ => some ([], 0, false)) (fun k => by rw [impl_Cheapest.j0, if_pos ht]) (Ev.now _)
  by_cases h : NetOk n (arcs l)
  · rw [boolP_true h] at hN
    by_cases h0 : size < 0
    · exact ⟨_, Ev.bind hN (Ev.congr (fun k => by rw [if_pos rfl, if_pos h0]) (bad (fun hh => by omega) true rfl)), .inl ⟨fun hh => by omega, rfl⟩⟩
    · by_cases h1 : size > 16
      · exact ⟨_, Ev.bind hN (Ev.congr (fun k => by rw [if_pos rfl, if_neg h0]) (bad (fun hh => by omega) (decide (size > 16)) (decide_eq_true h1))), .inl ⟨fun hh => by omega, rfl⟩⟩
      · obtain ⟨L, E, h2, R⟩ := stepsOf_ev h hl
        obtain ⟨z1, z2⟩ := zero_start h
        rw [arcs_len] at z1 z2
        obtain ⟨r, h3, h4⟩ := ci_l0 (L := L) (E := E) h hl R size.toNat _ _ _ (by omega) z1 z2
        rw [show ((size.toNat : Nat) : Int) = size by omega] at h3
        refine ⟨r, Ev.bind hN (Ev.congr (fun k => by rw [if_pos rfl, if_neg h0]) ?_), .inr ⟨h, by omega, by omega, by rw [arcs_len]; exact h4⟩⟩
        refine Ev.step (fun k => by rw [impl_Cheapest.j0, if_neg (by rw [decide_eq_false h1]; simp)]) (Ev.bind h2 ?_)
        exact Ev.congr (fun k => by rw [if_pos (by omega), if_pos (by omega), Int.toNat_natCast]) h3
  · rw [boolP_false h] at hN
    exact ⟨_, Ev.bind hN (Ev.congr (fun k => by rw [if_neg (by simp)]) (bad (fun hh => h hh.1) true rfl)), .inl ⟨fun hh => h hh.1, rfl⟩⟩
end

/-! spec.l08Far: rounds over all arcs -/
section
variable {n : Int} {l : List S67} {f : List Int} {S : Nat → Bool} {P : Nat → Int} {F : List Int}

theorem wcost (hn : NetOk n (arcs l)) {i : Nat} (hi : i < (arcs l).length) : wrap64 (10000 * (at_ (arcs l) i).c) = 10000 * (at_ (arcs l) i).c ∧ 0 ≤ (at_ (arcs l) i).c ∧ (at_ (arcs l) i).c ≤ 100 := by
  have h := (hn.2 i hi).2.2.2.2.2.2.2
  exact ⟨w64 (by omega) (by omega), h.1, h.2⟩

/-- a sum of a label and a step's length, as the program reckons it -/
theorem sums_small {x c : Int} (h0 : -3000000000 ≤ x) (h1 : x ≤ 1152921504606846976) (c0 : 0 ≤ c) (c1 : c ≤ 100) : wrap64 (wrap64 (x + 10000 * c) + 1) = x + (10000 * c + 1) ∧ wrap64 (wrap64 (x - 10000 * c) + 1) = x + (10000 * (-c) + 1) := by
  rw [w64 (x := x + 10000 * c) (by omega) (by omega), w64 (x := x - 10000 * c) (by omega) (by omega), w64 (by omega) (by omega), w64 (by omega) (by omega)]
  omega

theorem sLen_f (l : List Arc) (i : Nat) : sLen l i false = 10000 * (at_ l i).c + 1 := rfl
theorem sLen_t (l : List Arc) (i : Nat) : sLen l i true = 10000 * (-(at_ l i).c) + 1 := rfl

/-- the steps of the arcs below i -/
def Below2 (i : Nat) (j : Nat) (b : Bool) : Prop := j < i

theorem far_l2 (hn : NetOk n (arcs l)) (hl : l.length ≤ 1048576) (hf : f.length = l.length) (hr : InRoom (arcs l) f) (hp : Pot n (arcs l) f S P) (aF : Fin n (arcs l) f S P F) (d0 : List Int) (rnd : Int) (G : List Int → Prop)
    (next : ∀ d more, Pass n (arcs l) f S P F d0 (Below2 l.length) d more → ∃ r, Ev (fun k => if more = true then (spec_l08Far.l1 k f d (wrap64 (rnd + 1)) n l) else (some d)) r ∧ G r) (m : Nat) :
    ∀ (i : Nat) d more, i + m = l.length → Pass n (arcs l) f S P F d0 (Below2 i) d more → ∃ r, Ev (fun k => spec_l08Far.l2 k f d rnd more i n l) r ∧ G r := by
  induction m with
  | zero =>
    intro i d more hi p
    obtain rfl : i = l.length := by omega
    obtain ⟨r, h1, h2⟩ := next d more p
    exact ⟨r, Ev.step (fun k => by rw [spec_l08Far.l2, if_neg (by omega)]) h1, h2⟩
  | succ m ih =>
    intro i d more hi p
    have hil : i < l.length := by omega
    have hi1 : i + 1 + m = l.length := by omega
    have hia : i < (arcs l).length := by rw [arcs_len]; exact hil
    have hw : wrap64 ((i : Int) + 1) = ((i + 1 : Nat) : Int) := by rw [w64 (by omega) (by omega)]; omega
    have i0 : (0 : Int) ≤ (i : Int) := by omega
    have i1 : (i : Int) < (l.length : Int) := by omega
    have i2 : (i : Int) < (f.length : Int) := by rw [hf]; exact i1
    obtain ⟨a1, a2, a3, a4, a5, _⟩ := hn.2 i hia
    obtain ⟨wc, c0, c1⟩ := wcost hn hia
    have e0 := at_0 l (i : Int)
    have e1 := at_1 l (i : Int)
    have e2 := at_2 l (i : Int)
    have e3 := at_3 l (i : Int)
    have ef : rd f (i : Int) = f.getD i 0 := by unfold rd; rw [Int.toNat_natCast]
    rw [Int.toNat_natCast] at e0 e1 e2 e3
    have dl := p.lab.len
    have u1 : (at_ (arcs l) i).u < (d.length : Int) := by clear hw wc hi hi1; rw [dl]; omega
    have v1 : (at_ (arcs l) i).v < (d.length : Int) := by clear hw wc hi hi1; rw [dl]; omega
    have hfr : fr (arcs l) i false = (at_ (arcs l) i).u.toNat := rfl
    have htw : tw (arcs l) i false = (at_ (arcs l) i).v.toNat := rfl
    have hfr' : fr (arcs l) i true = (at_ (arcs l) i).v.toNat := rfl
    have htw' : tw (arcs l) i true = (at_ (arcs l) i).u.toNat := rfl
    have un : (at_ (arcs l) i).u.toNat < n.toNat := by clear hw wc hi hi1; omega
    have vn : (at_ (arcs l) i).v.toNat < n.toNat := by clear hw wc hi hi1; omega
    -- the second step, from whatever state behind the first
    have second : ∀ d more, d.length = n.toNat → Pass n (arcs l) f S P F d0 (fun j c => Below2 i j c ∨ (j = i ∧ c = false)) d more →
        ∃ r, Ev (fun k => if f.getD i 0 > 0 then (if rd d (at_ (arcs l) i).v < 1152921504606846976 then (if (wrap64 ((wrap64 ((rd d (at_ (arcs l) i).v) - 10000 * (at_ (arcs l) i).c)) + 1)) < (rd d (at_ (arcs l) i).u) then (spec_l08Far.l2 k f (d.set (at_ (arcs l) i).u.toNat (wrap64 ((wrap64 ((rd d (at_ (arcs l) i).v) - 10000 * (at_ (arcs l) i).c)) + 1))) rnd true ((i + 1 : Nat) : Int) n l) else (spec_l08Far.l2 k f d rnd more ((i + 1 : Nat) : Int) n l)) else (spec_l08Far.l2 k f d rnd more ((i + 1 : Nat) : Int) n l)) else (spec_l08Far.l2 k f d rnd more ((i + 1 : Nat) : Int) n l)) r ∧ G r := fun d more dl p => by
      have fit : ∀ {d more}, Pass n (arcs l) f S P F d0 (fun j c => (Below2 i j c ∨ (j = i ∧ c = false)) ∨ (j = i ∧ c = true)) d more → Pass n (arcs l) f S P F d0 (Below2 (i + 1)) d more := fun p => p.mono (fun j c _ hj => by
        have hj' : j < i + 1 := hj
        by_cases e : j = i
        · cases c
          · exact .inl (.inr ⟨e, rfl⟩)
          · exact .inr ⟨e, rfl⟩
        · exact .inl (.inl (by show j < i; omega)))
      have ev : rd d (at_ (arcs l) i).v = d.getD (fr (arcs l) i true) 0 := rfl
      have eu : rd d (at_ (arcs l) i).u = d.getD (tw (arcs l) i true) 0 := rfl
      have hs := lab_small hn hp p.lab vn
      rw [INF_eq] at hs
      have hsum := (sums_small hs.1 hs.2 c0 c1).2
      rw [← hfr'] at hsum hs
      rw [ev, eu, hsum, ← sLen_t]
      have stay : (0 < sRoom (arcs l) f i true → d.getD (fr (arcs l) i true) 0 < INF → d.getD (tw (arcs l) i true) 0 ≤ d.getD (fr (arcs l) i true) 0 + sLen (arcs l) i true) → ∃ r, Ev (fun k => spec_l08Far.l2 k f d rnd more ((i + 1 : Nat) : Int) n l) r ∧ G r := fun hx => ih (i + 1) d more hi1 (fit (p.skip (i := i) (b := true) hx))
      by_cases q1 : f.getD i 0 > 0
      · by_cases q2 : d.getD (fr (arcs l) i true) 0 < 1152921504606846976
        · by_cases q3 : d.getD (fr (arcs l) i true) 0 + sLen (arcs l) i true < d.getD (tw (arcs l) i true) 0
          · obtain ⟨r, h1, h2⟩ := ih (i + 1) _ true hi1 (fit (p.relax hn hp aF.conv hia (b := true) q1 q2 q3))
            exact ⟨r, Ev.congr (fun k => by rw [if_pos q1, if_pos q2, if_pos q3]; rfl) h1, h2⟩
          · obtain ⟨r, h1, h2⟩ := stay (fun _ _ => Int.not_lt.1 q3)
            exact ⟨r, Ev.congr (fun k => by rw [if_pos q1, if_pos q2, if_neg q3]) h1, h2⟩
        · obtain ⟨r, h1, h2⟩ := stay (fun _ h => absurd h q2)
          exact ⟨r, Ev.congr (fun k => by rw [if_pos q1, if_neg q2]) h1, h2⟩
      · obtain ⟨r, h1, h2⟩ := stay (fun h _ => absurd h q1)
        exact ⟨r, Ev.congr (fun k => by rw [if_neg q1]) h1, h2⟩
    -- the first step
    have hs := lab_small hn hp p.lab un
    rw [INF_eq] at hs
    have hsum := (sums_small hs.1 hs.2 c0 c1).1
    rw [← hfr] at hsum hs
    have eu : rd d (at_ (arcs l) i).u = d.getD (fr (arcs l) i false) 0 := rfl
    have ev : rd d (at_ (arcs l) i).v = d.getD (tw (arcs l) i false) 0 := rfl
    have stay : (0 < sRoom (arcs l) f i false → d.getD (fr (arcs l) i false) 0 < INF → d.getD (tw (arcs l) i false) 0 ≤ d.getD (fr (arcs l) i false) 0 + sLen (arcs l) i false) →
        ∃ r, Ev (fun k => spec_l08Far.j3 k f d rnd more i (10000 * (at_ (arcs l) i).c) false n l (at_ (arcs l) i).u (at_ (arcs l) i).v (at_ (arcs l) i).r (at_ (arcs l) i).c) r ∧ G r := fun hx => by
      obtain ⟨r, h1, h2⟩ := second d more dl (p.skip (i := i) (b := false) hx)
      refine ⟨r, Ev.step (fun k => ?_) h1, h2⟩
      rw [spec_l08Far.j3, if_neg (by simp), if_pos i0, if_pos i2, ef, if_pos a3, if_pos v1, if_pos a1, if_pos u1, hw]
    have front : ∀ (t : Bool), (f.getD i 0 < (at_ (arcs l) i).r ∧ d.getD (fr (arcs l) i false) 0 < 1152921504606846976 → t = decide (d.getD (fr (arcs l) i false) 0 + sLen (arcs l) i false < d.getD (tw (arcs l) i false) 0)) → (¬ (f.getD i 0 < (at_ (arcs l) i).r ∧ d.getD (fr (arcs l) i false) 0 < 1152921504606846976) → t = false) →
        (∃ r, Ev (fun k => spec_l08Far.j3 k f d rnd more i (10000 * (at_ (arcs l) i).c) t n l (at_ (arcs l) i).u (at_ (arcs l) i).v (at_ (arcs l) i).r (at_ (arcs l) i).c) r ∧ G r) → ∃ r, Ev (fun k => spec_l08Far.l2 k f d rnd more i n l) r ∧ G r := fun t t1 t0 hx => by
      obtain ⟨r, h1, h2⟩ := hx
      refine ⟨r, Ev.step (fun k => ?_) h1, h2⟩
      rw [spec_l08Far.l2, if_pos i2, if_pos i0, if_pos i1, e0, e1, e2, e3, ef, wc, eu, ev, hsum, ← sLen_f, if_pos a1, if_pos u1, if_pos a3, if_pos v1]
      by_cases q1 : f.getD i 0 < (at_ (arcs l) i).r
      · by_cases q2 : d.getD (fr (arcs l) i false) 0 < 1152921504606846976
        · rw [if_pos q1, if_pos q2, t1 ⟨q1, q2⟩]
        · rw [if_pos q1, if_neg q2, t0 (fun h => q2 h.2)]
      · rw [if_neg q1, t0 (fun h => q1 h.1)]
    by_cases q : f.getD i 0 < (at_ (arcs l) i).r ∧ d.getD (fr (arcs l) i false) 0 < 1152921504606846976
    · have rm : 0 < sRoom (arcs l) f i false := by have := q.1; show 0 < (at_ (arcs l) i).r - f.getD i 0; clear hw wc hi hi1; omega
      by_cases q3 : d.getD (fr (arcs l) i false) 0 + sLen (arcs l) i false < d.getD (tw (arcs l) i false) 0
      · refine front true (fun _ => (decide_eq_true q3).symm) (fun h => absurd q h) ?_
        have p' := p.relax hn hp aF.conv hia (b := false) rm q.2 q3
        obtain ⟨r, h1, h2⟩ := second _ true (by rw [List.length_set]; exact dl) p'
        refine ⟨r, Ev.step (fun k => ?_) h1, h2⟩
        rw [spec_l08Far.j3, if_pos rfl, if_pos a1, if_pos u1, if_pos a3, if_pos v1, Option.bind_some, if_pos i0, if_pos i2, ef, eu, hsum, ← sLen_f, hw]
        rfl
      · exact front false (fun _ => (decide_eq_false q3).symm) (fun _ => rfl) (stay (fun _ _ => Int.not_lt.1 q3))
    · refine front false (fun h => absurd h q) (fun _ => rfl) (stay (fun h h' => ?_))
      exact absurd ⟨by have h' : 0 < (at_ (arcs l) i).r - f.getD i 0 := h; clear hw wc hi hi1; omega, h'⟩ q

theorem far_l1 (hn : NetOk n (arcs l)) (hl : l.length ≤ 1048576) (hf : f.length = l.length) (hr : InRoom (arcs l) f) (hp : Pot n (arcs l) f S P) (aF : Fin n (arcs l) f S P F) (m : Nat) : ∀ (r : Nat) d, r + m = n.toNat → Lab n (arcs l) f S P d → Over n F d → Near n P F r d → Ev (fun k => spec_l08Far.l1 k f d r n l) F := by
  have n15 := hn.1.2.1
  have n2 := hn.1.1
  induction m with
  | zero =>
    intro r d hr1 a o hN
    have e : d = F := near_all hn hp aF a o (r := r) (by omega) hN
    rw [e]
    exact Ev.step (f := fun _ => some F) (fun k => by rw [spec_l08Far.l1, if_neg (by omega)]) (Ev.now _)
  | succ m ih =>
    intro r d hr1 a o hN
    have hw : wrap64 ((r : Int) + 1) = ((r + 1 : Nat) : Int) := by rw [w64 (by omega) (by omega)]; omega
    have all : ∀ j b, j < (arcs l).length → Below2 l.length j b := fun j b hj => by rw [arcs_len] at hj; exact hj
    obtain ⟨r', h1, h2⟩ := far_l2 hn hl hf hr hp aF d r (fun r' => r' = F) (fun d' more p => by
      cases more with
      | true =>
        refine ⟨F, ?_, rfl⟩
        have hN' := p.near hn hp aF all hN
        have := ih (r + 1) d' (by omega) p.lab p.over (by rw [show ((r + 1 : Nat) : Int) = (r : Int) + 1 by omega]; exact hN')
        exact Ev.congr (fun k => by rw [if_pos rfl, hw]) this
      | false =>
        have e := p.stop hn hp aF all
        exact ⟨F, Ev.of_eq fun k => by rw [if_neg (by simp), e], rfl⟩) l.length 0 d false (Nat.zero_add _) { lab := a, over := o, le := fun x => Int.le_refl _, same := fun _ => rfl, ok := fun _ j b _ hj => absurd hj (Nat.not_lt_zero j), done := fun j b _ hj => absurd hj (Nat.not_lt_zero j) }
    rw [h2] at h1
    rw [show ((0 : Nat) : Int) = 0 from rfl] at h1
    exact Ev.step (fun k => by rw [spec_l08Far.l1, if_pos (by omega)]) h1

theorem far_l0 (hn : NetOk n (arcs l)) (m : Nat) : ∀ (i : Nat) (d : List Int), 1 ≤ i → i + m = n.toNat → d.length = n.toNat → d.getD 0 0 = 0 → (∀ x, 0 < x → x < i → d.getD x 0 = INF) →
    ∃ d', d'.length = n.toNat ∧ d'.getD 0 0 = 0 ∧ (∀ x, 0 < x → x < n.toNat → d'.getD x 0 = INF) ∧ ∀ r, Ev (fun k => spec_l08Far.l1 k f d' 0 n l) r → Ev (fun k => spec_l08Far.l0 k f d i n l) r := by
  have n15 := hn.1.2.1
  induction m with
  | zero =>
    intro i d h1 hi hd h0 hx
    exact ⟨d, hd, h0, fun x a b => hx x a (by omega), fun r h => Ev.step (fun k => by rw [spec_l08Far.l0, if_neg (by omega)]) h⟩
  | succ m ih =>
    intro i d h1 hi hd h0 hx
    have hw : wrap64 ((i : Int) + 1) = ((i + 1 : Nat) : Int) := by rw [w64 (by omega) (by omega)]; omega
    have hset : ∀ x : Nat, (d.set i INF).getD x 0 = if x = i then INF else d.getD x 0 := fun x => getD_set _ _ _ _ _ (by omega)
    obtain ⟨d', g1, g2, g3, g4⟩ := ih (i + 1) (d.set i INF) (by omega) (by omega) (by rw [List.length_set]; exact hd) (by rw [hset, if_neg (by omega)]; exact h0) (fun x a b => by
      rw [hset]
      split
      · rfl
      · exact hx x a (by omega))
    exact ⟨d', g1, g2, g3, fun r h => Ev.step (fun k => by rw [spec_l08Far.l0, if_pos (by omega), if_pos (by omega), if_pos (by omega), hw, Int.toNat_natCast, ← INF_eq]) (g4 r h)⟩

theorem far_ev (hn : NetOk n (arcs l)) (hl : l.length ≤ 1048576) (hf : f.length = l.length) (hr : InRoom (arcs l) f) (hp : Pot n (arcs l) f S P) (aF : Fin n (arcs l) f S P F) : Ev (fun k => spec_l08Far.f k n l f) F := by
  have n2 := hn.1.1
  have n15 := hn.1.2.1
  have h00 : (List.replicate n.toNat (0 : Int)).getD 0 0 = 0 := by
    rw [List.getD_eq_getElem?_getD, List.getElem?_replicate]; split <;> rfl
  obtain ⟨d0, g1, g2, g3, g4⟩ := far_l0 (f := f) (l := l) hn (n.toNat - 1) 1 (List.replicate n.toNat 0) (Nat.le_refl _) (by omega) (by simp) h00 (fun x a b => by omega)
  have lab := Lab.start hn hp d0 g1 g2 g3
  have h3 := far_l1 hn hl hf hr hp aF n.toNat 0 d0 (Nat.zero_add _) lab (over_start aF.toLab g2 g3) (near_start hn hp aF lab)
  rw [show ((0 : Nat) : Int) = 0 from rfl] at h3
  have h4 := g4 F h3
  rw [show ((1 : Nat) : Int) = 1 from rfl] at h4
  exact Ev.congr (fun k => by unfold spec_l08Far.f; rw [if_pos (by omega), if_pos (by omega)]) h4
end

/-! spec.l08Back: the first step into a node that fits -/
def codeB (s : Option (Nat × Bool)) : Int := match s with
  | none => 0
  | some (i, false) => (i : Int) + 1
  | some (i, true) => -(i : Int) - 1

section
variable {n : Int} {l : List S67} {f : List Int} {S : Nat → Bool} {P : Nat → Int} {F : List Int}

theorem back_l0 (hn : NetOk n (arcs l)) (hl : l.length ≤ 1048576) (hf : f.length = l.length) (hr : InRoom (arcs l) f) (hp : Pot n (arcs l) f S P) (aF : Fin n (arcs l) f S P F) (v : Nat) (hv : v < n.toNat) (m : Nat) :
    ∀ i : Nat, i + m = l.length → ft (arcs l) f F v i = none → Ev (fun k => spec_l08Back.l0 k f F v i n l) (codeB (ft (arcs l) f F v l.length)) := by
  induction m with
  | zero =>
    intro i hi h0
    obtain rfl : i = l.length := by omega
    rw [h0]
    exact Ev.step (f := fun _ => some 0) (fun k => by rw [spec_l08Back.l0, if_neg (by omega)]) (Ev.now _)
  | succ m ih =>
    intro i hi h0
    have hil : i < l.length := by omega
    have hi1 : i + 1 + m = l.length := by omega
    have hia : i < (arcs l).length := by rw [arcs_len]; exact hil
    have hw : wrap64 ((i : Int) + 1) = ((i + 1 : Nat) : Int) := by rw [w64 (by omega) (by omega)]; omega
    have hwn : wrap64 (wrap64 (-(i : Int)) - 1) = -(i : Int) - 1 := by rw [w64 (x := -(i : Int)) (by omega) (by omega), w64 (by omega) (by omega)]
    have i0 : (0 : Int) ≤ (i : Int) := by omega
    have i1 : (i : Int) < (l.length : Int) := by omega
    have i2 : (i : Int) < (f.length : Int) := by rw [hf]; exact i1
    obtain ⟨a1, a2, a3, a4, a5, _⟩ := hn.2 i hia
    obtain ⟨wc, c0, c1⟩ := wcost hn hia
    have e0 := at_0 l (i : Int)
    have e1 := at_1 l (i : Int)
    have e2 := at_2 l (i : Int)
    have e3 := at_3 l (i : Int)
    have ef : rd f (i : Int) = f.getD i 0 := by unfold rd; rw [Int.toNat_natCast]
    rw [Int.toNat_natCast] at e0 e1 e2 e3
    have dl := aF.len
    have u1 : (at_ (arcs l) i).u < (F.length : Int) := by clear hw hwn wc hi hi1; rw [dl]; omega
    have v1 : (at_ (arcs l) i).v < (F.length : Int) := by clear hw hwn wc hi hi1; rw [dl]; omega
    have vF : (v : Int) < (F.length : Int) := by clear hw hwn wc hi hi1; rw [dl]; omega
    have un : (at_ (arcs l) i).u.toNat < n.toNat := by clear hw hwn wc hi hi1; omega
    have vn : (at_ (arcs l) i).v.toNat < n.toNat := by clear hw hwn wc hi hi1; omega
    have twf : tw (arcs l) i false = (at_ (arcs l) i).v.toNat := rfl
    have twt : tw (arcs l) i true = (at_ (arcs l) i).u.toNat := rfl
    have tvf : tw (arcs l) i false = v ↔ (at_ (arcs l) i).v = (v : Int) := by rw [twf]; clear hw hwn wc hi hi1; omega
    have tvt : tw (arcs l) i true = v ↔ (at_ (arcs l) i).u = (v : Int) := by rw [twt]; clear hw hwn wc hi hi1; omega
    have hs := lab_small hn hp aF.toLab un
    have ht := lab_small hn hp aF.toLab vn
    rw [INF_eq] at hs ht
    have hsum := (sums_small hs.1 hs.2 c0 c1).1
    have hsum' := (sums_small ht.1 ht.2 c0 c1).2
    have eu : rd F (at_ (arcs l) i).u = F.getD (at_ (arcs l) i).u.toNat 0 := rfl
    have ev : rd F (at_ (arcs l) i).v = F.getD (at_ (arcs l) i).v.toNat 0 := rfl
    have ex : rd F (v : Int) = F.getD v 0 := by unfold rd; rw [Int.toNat_natCast]
    have rf : 0 < sRoom (arcs l) f i false ↔ f.getD i 0 < (at_ (arcs l) i).r := by show 0 < (at_ (arcs l) i).r - f.getD i 0 ↔ _; clear hw hwn wc hi hi1; omega
    have first : ft (arcs l) f F v (i + 1) = if tb (arcs l) f F v (i, false) = true then some (i, false) else if tb (arcs l) f F v (i, true) = true then some (i, true) else none := by rw [ft, h0]
    -- the step against the arc
    have second : ∀ t : Bool, t = tb (arcs l) f F v (i, false) → Ev (fun k => spec_l08Back.j1 k f F v i (10000 * (at_ (arcs l) i).c) t n l (at_ (arcs l) i).u (at_ (arcs l) i).v (at_ (arcs l) i).r (at_ (arcs l) i).c) (codeB (ft (arcs l) f F v l.length)) := fun t ht0 => by
      cases t with
      | true =>
        rw [if_pos ht0.symm] at first
        rw [ft_mono first (by omega)]
        exact Ev.step (f := fun _ => some ((i : Int) + 1)) (fun k => by rw [spec_l08Back.j1, if_pos rfl, hw]; congr 1) (Ev.now _)
      | false =>
        rw [if_neg (by rw [← ht0]; simp)] at first
        have go : tb (arcs l) f F v (i, true) = false → Ev (fun k => spec_l08Back.l0 k f F v ((i + 1 : Nat) : Int) n l) (codeB (ft (arcs l) f F v l.length)) := fun h => ih (i + 1) hi1 (by rw [first, if_neg (by rw [h]; simp)])
        have no : ¬ Tight (arcs l) f F v i true → tb (arcs l) f F v (i, true) = false := fun h => boolP_false h
        by_cases q1 : (at_ (arcs l) i).u = (v : Int)
        · by_cases q2 : f.getD i 0 > 0
          · by_cases q3 : F.getD (at_ (arcs l) i).v.toNat 0 < 1152921504606846976
            · by_cases q4 : F.getD (at_ (arcs l) i).v.toNat 0 + (10000 * (-(at_ (arcs l) i).c) + 1) = F.getD v 0
              · have tt : tb (arcs l) f F v (i, true) = true := boolP_true ⟨hia, tvt.2 q1, q2, q3, q4⟩
                rw [if_pos tt] at first
                rw [ft_mono first (by omega)]
                exact Ev.step (f := fun _ => some (-(i : Int) - 1)) (fun k => by rw [spec_l08Back.j1, if_neg (by simp), if_pos q1, if_pos i0, if_pos i2, ef, if_pos q2, if_pos a3, if_pos v1, ev, if_pos q3, if_pos (Int.natCast_nonneg v), if_pos vF, hsum', ex, if_pos q4, hwn]) (Ev.now _)
              · exact Ev.step (fun k => by rw [spec_l08Back.j1, if_neg (by simp), if_pos q1, if_pos i0, if_pos i2, ef, if_pos q2, if_pos a3, if_pos v1, ev, if_pos q3, if_pos (Int.natCast_nonneg v), if_pos vF, hsum', ex, if_neg q4, hw]) (go (no (fun t => q4 t.2.2.2.2)))
            · exact Ev.step (fun k => by rw [spec_l08Back.j1, if_neg (by simp), if_pos q1, if_pos i0, if_pos i2, ef, if_pos q2, if_pos a3, if_pos v1, ev, if_neg q3, hw]) (go (no (fun t => q3 t.2.2.2.1)))
          · exact Ev.step (fun k => by rw [spec_l08Back.j1, if_neg (by simp), if_pos q1, if_pos i0, if_pos i2, ef, if_neg q2, hw]) (go (no (fun t => q2 t.2.2.1)))
        · exact Ev.step (fun k => by rw [spec_l08Back.j1, if_neg (by simp), if_neg q1, hw]) (go (no (fun t => q1 (tvt.1 t.2.1))))
    have no : ¬ Tight (arcs l) f F v i false → false = tb (arcs l) f F v (i, false) := fun h => (boolP_false h).symm
    by_cases q1 : (at_ (arcs l) i).v = (v : Int)
    · by_cases q2 : f.getD i 0 < (at_ (arcs l) i).r
      · by_cases q3 : F.getD (at_ (arcs l) i).u.toNat 0 < 1152921504606846976
        · refine Ev.step (fun k => by rw [spec_l08Back.l0, if_pos i2, if_pos i0, if_pos i1, e0, e1, e2, e3, if_pos q1, ef, if_pos q2, if_pos a1, if_pos u1, eu, if_pos q3, if_pos (Int.natCast_nonneg v), if_pos vF, wc, hsum, ex]) (second (F.getD (at_ (arcs l) i).u.toNat 0 + (10000 * (at_ (arcs l) i).c + 1) == F.getD v 0) ?_)
          by_cases q4 : F.getD (at_ (arcs l) i).u.toNat 0 + (10000 * (at_ (arcs l) i).c + 1) = F.getD v 0
          · rw [beq_iff_eq.2 q4]
            exact (boolP_true (p := Tight (arcs l) f F v i false) ⟨hia, tvf.2 q1, rf.2 q2, q3, q4⟩).symm
          · rw [beq_eq_false_iff_ne.2 q4]
            exact no (fun t => q4 t.2.2.2.2)
        · exact Ev.step (fun k => by rw [spec_l08Back.l0, if_pos i2, if_pos i0, if_pos i1, e0, e1, e2, e3, if_pos q1, ef, if_pos q2, if_pos a1, if_pos u1, eu, if_neg q3, wc]) (second false (no (fun t => q3 t.2.2.2.1)))
      · exact Ev.step (fun k => by rw [spec_l08Back.l0, if_pos i2, if_pos i0, if_pos i1, e0, e1, e2, e3, if_pos q1, ef, if_neg q2, wc]) (second false (no (fun t => q2 (rf.1 t.2.2.1))))
    · exact Ev.step (fun k => by rw [spec_l08Back.l0, if_pos i2, if_pos i0, if_pos i1, e0, e1, e2, e3, if_neg q1, wc]) (second false (no (fun t => q1 (tvf.1 t.2.1))))

theorem back_ev (hn : NetOk n (arcs l)) (hl : l.length ≤ 1048576) (hf : f.length = l.length) (hr : InRoom (arcs l) f) (hp : Pot n (arcs l) f S P) (aF : Fin n (arcs l) f S P F) (v : Nat) (hv : v < n.toNat) : Ev (fun k => spec_l08Back.f k n l f F v) (codeB (ft (arcs l) f F v l.length)) := by
  have h := back_l0 hn hl hf hr hp aF v hv l.length 0 (Nat.zero_add _) rfl
  rw [show ((0 : Nat) : Int) = 0 from rfl] at h
  exact h
end

/-! spec.NetOk -/
theorem l01In_eq (x a b : Int) : spec_l01In.f x a b = some (decide (a ≤ x ∧ x ≤ b)) := by
  unfold spec_l01In.f
  by_cases h : x ≥ a
  · rw [if_pos h]; congr 1; rw [decide_eq_decide]; omega
  · rw [if_neg h, decide_eq_false (by omega)]

theorem spec_arcs (n : Int) (l : List S67) (h2 : 2 ≤ n) (hn : n ≤ 1500) (hl : l.length ≤ 3200) (d : Nat) : ∀ i : Int, 0 ≤ i → i + d = l.length →
    Ev (fun k => spec_NetOk.l0 k i n l) (boolP (∀ j : Nat, i ≤ j → j < l.length → ArcOk n (at_ (arcs l) j))) := by
  induction d with
  | zero =>
    intro i h0 h1
    rw [boolP_true (fun j a b => by omega)]
    exact Ev.step (f := fun _ => some true) (fun k => by rw [spec_NetOk.l0, if_neg (by omega)]) (Ev.now _)
  | succ d ih =>
    intro i h0 h1
    have hi : ((i.toNat : Nat) : Int) = i := by omega
    have bad : ¬ ArcOk n (at_ (arcs l) i.toNat) → boolP (∀ j : Nat, i ≤ j → j < l.length → ArcOk n (at_ (arcs l) j)) = false := fun hb => boolP_false (fun h => hb (h i.toNat (by omega) (by omega)))
    have hw : wrap64 (n - 1) = n - 1 := w64 (by omega) (by omega)
    have head : ∀ k, spec_NetOk.l0 (k + 1) i n l = if ArcOk n (at_ (arcs l) i.toNat) then spec_NetOk.l0 k (i + 1) n l else some false := fun k => by
      rw [spec_NetOk.l0, if_pos (by omega), if_pos h0, at_0, at_1, at_2, at_3, hw, l01In_eq, l01In_eq, l01In_eq, l01In_eq, w64 (x := i + 1) (by omega) (by omega)]
      simp only [Option.bind_some, decide_eq_true_eq]
      by_cases c1 : 0 ≤ (at_ (arcs l) i.toNat).u ∧ (at_ (arcs l) i.toNat).u ≤ n - 1
      · rw [if_pos c1]
        by_cases c2 : 0 ≤ (at_ (arcs l) i.toNat).v ∧ (at_ (arcs l) i.toNat).v ≤ n - 1
        · rw [if_pos c2]
          by_cases c3 : (at_ (arcs l) i.toNat).u = (at_ (arcs l) i.toNat).v
          · rw [if_pos c3, if_neg (by unfold ArcOk; omega)]
          · rw [if_neg c3]
            by_cases c4 : 0 ≤ (at_ (arcs l) i.toNat).r ∧ (at_ (arcs l) i.toNat).r ≤ 20
            · rw [if_pos c4]
              by_cases c5 : 0 ≤ (at_ (arcs l) i.toNat).c ∧ (at_ (arcs l) i.toNat).c ≤ 100
              · rw [if_pos c5, if_pos (by unfold ArcOk; omega)]
              · rw [if_neg c5, if_neg (by unfold ArcOk; omega)]
            · rw [if_neg c4, if_neg (by unfold ArcOk; omega)]
        · rw [if_neg c2, if_neg (by unfold ArcOk; omega)]
      · rw [if_neg c1, if_neg (by unfold ArcOk; omega)]
    by_cases ha : ArcOk n (at_ (arcs l) i.toNat)
    · have e : boolP (∀ j : Nat, i ≤ j → j < l.length → ArcOk n (at_ (arcs l) j)) = boolP (∀ j : Nat, i + 1 ≤ j → j < l.length → ArcOk n (at_ (arcs l) j)) := by
        rw [Bool.eq_iff_iff, boolP_iff, boolP_iff]
        constructor
        · intro h j a b; exact h j (by omega) b
        · intro h j a b
          by_cases hj : j = i.toNat
          · rw [hj]; exact ha
          · exact h j (by omega) b
      rw [e]
      exact Ev.step (fun k => by rw [head, if_pos ha]) (ih (i + 1) (by omega) (by omega))
    · rw [bad ha]
      exact Ev.step (f := fun _ => some false) (fun k => by rw [head, if_neg ha]) (Ev.now _)

theorem sNetOk (n : Int) (l : List S67) (hlen : l.length ≤ 1048576) : Ev (fun k => spec_NetOk.f k n l) (boolP (NetOk n (arcs l))) := by
  have bad : ∀ hn : ¬ NetOk n (arcs l), Ev (fun k => spec_NetOk.j0 k true n l) (boolP (NetOk n (arcs l))) := fun hn => by
    rw [boolP_false hn]
    exact Ev.step (f := fun _ => some false) (fun k => by rw [spec_NetOk.j0, if_pos rfl]) (Ev.now _)
  refine Ev.congr (f := fun k => if 2 ≤ n ∧ n ≤ 1500 then spec_NetOk.j0 k (decide ((l.length : Int) > 3200)) n l else spec_NetOk.j0 k true n l) (fun k => by unfold spec_NetOk.f; rw [l01In_eq, Option.bind_some]; simp only [decide_eq_true_eq]) ?_
  by_cases h1 : 2 ≤ n ∧ n ≤ 1500
  · simp only [if_pos h1]
    by_cases h2 : (l.length : Int) > 3200
    · rw [decide_eq_true h2]
      exact bad (fun hh => by have := hh.1; rw [arcs_len] at this; omega)
    · rw [decide_eq_false h2]
      have e : boolP (NetOk n (arcs l)) = boolP (∀ j : Nat, (0 : Int) ≤ j → j < l.length → ArcOk n (at_ (arcs l) j)) := by
        rw [Bool.eq_iff_iff, boolP_iff, boolP_iff]
        constructor
        · intro h j a b; exact h.2 j (by rw [arcs_len]; exact b)
        · intro h; exact ⟨⟨h1.1, h1.2, by rw [arcs_len]; omega⟩, fun i hi => h i (by omega) (by rw [arcs_len] at hi; exact hi)⟩
      rw [e]
      exact Ev.step (fun k => by rw [spec_NetOk.j0, if_neg (by simp)]) (spec_arcs n l h1.1 h1.2 (by omega) l.length 0 (by omega) (by omega))
  · simp only [if_neg h1]
    exact bad (fun hh => h1 ⟨hh.1.1, hh.1.2.1⟩)

/-! spec.l06Out -/
theorem l06Out_l0 {n : Int} {l : List S67} {f : List Int} (hn : NetOk n (arcs l)) (hf : f.length = l.length) (hr : InRoom (arcs l) f) (hm : l.length ≤ 1048576) (d : Nat) : ∀ (i : Nat) (ys : List Int), i + d = l.length →
    ys.length = n.toNat → (∀ x : Nat, (x : Int) < n → ys.getD x 0 = - exc (arcs l) f i x) →
    ∃ zs, Ev (fun k => spec_l06Out.l0 k f ys i n l) zs ∧ zs.length = n.toNat ∧ ∀ x : Nat, (x : Int) < n → zs.getD x 0 = - exc (arcs l) f l.length x := by
  induction d with
  | zero =>
    intro i ys h1 hl hy
    obtain rfl : i = l.length := h1
    exact ⟨ys, Ev.step (f := fun _ => some ys) (fun k => by rw [spec_l06Out.l0, if_neg (by rw [hf]; exact nlt_i)]) (Ev.now _), hl, hy⟩
  | succ d ih =>
    intro i ys h1 hl hy
    have hi : i < l.length := by omega
    have hia : i < (arcs l).length := by rw [arcs_len]; exact hi
    have hif : i < f.length := by rw [hf]; exact hi
    obtain ⟨a1, a2, a3, a4, a5, a6, a7, a8, a9⟩ := hn.2 i hia
    have w1 := w64e (exc_bound hn hr i (Nat.le_of_lt hia) (at_ (arcs l) i).v) (hr i hia) a7
    have w2 := w64e (exc_bound hn hr i (Nat.le_of_lt hia) (at_ (arcs l) i).u) (hr i hia) a7
    have hstep : ∀ x : Nat, - exc (arcs l) f (i + 1) x = - exc (arcs l) f i x + ((if (at_ (arcs l) i).u = (x : Int) then f.getD i 0 else 0) - (if (at_ (arcs l) i).v = (x : Int) then f.getD i 0 else 0)) := fun x => by
      rw [exc_succ]
      generalize exc (arcs l) f i x = E
      generalize (if (at_ (arcs l) i).u = (x : Int) then f.getD i 0 else 0) = A
      generalize (if (at_ (arcs l) i).v = (x : Int) then f.getD i 0 else 0) = B
      omega
    obtain ⟨p1, p2, p3⟩ := put_step (G := fun x => - exc (arcs l) f i x) (G' := fun x => - exc (arcs l) f (i + 1) x) (F := f.getD i 0) a3 a4 a1 a2 (fun h => a5 h.symm) hl hy hstep
    obtain ⟨zs, hz, hzl, hzx⟩ := ih (i + 1) _ (by omega) (by rw [List.length_set, List.length_set]; exact hl) p3
    refine ⟨zs, Ev.step (fun k => ?_) hz, hzl, hzx⟩
    have ti : ((i : Int)).toNat = i := Int.toNat_natCast i
    have e0 : (rd_T67 l (i : Int)).f0 = (at_ (arcs l) i).u := by rw [at_0, ti]
    have e1 : (rd_T67 l (i : Int)).f1 = (at_ (arcs l) i).v := by rw [at_1, ti]
    have ef : rd f (i : Int) = f.getD i 0 := by unfold rd; rw [ti]
    have p1' : rd ys (at_ (arcs l) i).u = - exc (arcs l) f i (at_ (arcs l) i).u := p1
    have p2' : rd (ys.set (at_ (arcs l) i).u.toNat (- exc (arcs l) f i (at_ (arcs l) i).u + f.getD i 0)) (at_ (arcs l) i).v = - exc (arcs l) f i (at_ (arcs l) i).v := p2
    rw [spec_l06Out.l0, if_pos (lt_i hif), if_pos (ge_i i), if_pos (lt_i hi), e0, e1, ef, if_pos a1, if_pos (lt_len a2 hl a1), p1', w2.2.2.1, Option.bind_some, if_pos a3, if_pos (lt_len a4 hl a3), p2', w1.2.2.2, next_i hi hm]

theorem l06Out_ev {n : Int} {l : List S67} {f : List Int} (hn : NetOk n (arcs l)) (hf : f.length = l.length) (hr : InRoom (arcs l) f) :
    ∃ zs, Ev (fun k => spec_l06Out.f k n l f) zs ∧ zs.length = n.toNat ∧ ∀ x : Nat, (x : Int) < n → zs.getD x 0 = - exc (arcs l) f l.length x := by
  have g1 : 0 ≤ n := by have := hn.1.1; omega
  have g2 : n.toNat ≤ 35184372088832 := by have := hn.1.2.1; omega
  have hm : l.length ≤ 1048576 := by have := hn.1.2.2; rw [arcs_len] at this; omega
  obtain ⟨zs, hz, h1, h2⟩ := l06Out_l0 hn hf hr hm l.length 0 (List.replicate n.toNat 0) (Nat.zero_add _) (by simp) (fun x hx => by
    rw [List.getD_eq_getElem?_getD, List.getElem?_replicate]
    split <;> rfl)
  rw [show ((0 : Nat) : Int) = 0 from rfl] at hz
  exact ⟨zs, Ev.congr (fun k => by unfold spec_l06Out.f; rw [if_pos g1, if_pos g2]) hz, h1, h2⟩

/-! spec.FlowOk -/
theorem spec_nodes {n : Int} (l : List S67) (zs : List Int) (e : Nat → Int) (hz : zs.length = n.toNat) (hn : 2 ≤ n) (hn2 : n ≤ 1500) (he : ∀ x : Nat, (x : Int) < n → zs.getD x 0 = - e x) (d : Nat) : ∀ i : Nat, 2 ≤ i → i + d = n.toNat →
    Ev (fun k => spec_FlowOk.l1 k zs i n l) (boolP (∀ x : Nat, i ≤ x → 2 ≤ x → (x : Int) < n → e x = 0)) := by
  induction d with
  | zero =>
    intro i hi2 h
    rw [boolP_true (fun x a b c => by omega)]
    exact Ev.step (f := fun _ => some true) (fun k => by rw [spec_FlowOk.l1, if_neg (by omega)]) (Ev.now _)
  | succ d ih =>
    intro i hi2 h
    have ei : rd zs (i : Int) = - e i := by unfold rd; rw [Int.toNat_natCast]; exact he i (by omega)
    have hw : wrap64 ((i : Int) + 1) = ((i + 1 : Nat) : Int) := by rw [w64 (by omega) (by omega)]; omega
    by_cases hgo : e i ≠ 0
    · rw [boolP_false (fun hh => hgo (hh i (Nat.le_refl _) hi2 (by omega)))]
      exact Ev.step (f := fun _ => some false) (fun k => by rw [spec_FlowOk.l1, if_pos (by omega), if_pos (by omega), if_pos (by omega), ei, if_neg (by omega)]) (Ev.now _)
    · have e2 : boolP (∀ x : Nat, i ≤ x → 2 ≤ x → (x : Int) < n → e x = 0) = boolP (∀ x : Nat, i + 1 ≤ x → 2 ≤ x → (x : Int) < n → e x = 0) := by
        rw [Bool.eq_iff_iff, boolP_iff, boolP_iff]
        constructor
        · intro hh x a b c; exact hh x (by omega) b c
        · intro hh x a b c
          by_cases hx : x = i
          · subst hx
            exact Decidable.not_not.mp hgo
          · exact hh x (by omega) b c
      rw [e2]
      exact Ev.step (fun k => by rw [spec_FlowOk.l1, if_pos (by omega), if_pos (by omega), if_pos (by omega), ei, if_pos (by omega), hw]) (ih (i + 1) (by omega) (by omega))

theorem spec_ranges {n : Int} {l : List S67} {f : List Int} (hn : NetOk n (arcs l)) (hf : f.length = l.length) (hm : l.length ≤ 1048576) (d : Nat) : ∀ i : Nat, i + d = l.length → (∀ j, j < i → 0 ≤ f.getD j 0 ∧ f.getD j 0 ≤ (at_ (arcs l) j).r) →
    Ev (fun k => spec_FlowOk.l0 k f i n l) (boolP (FlowOk n (arcs l) f)) := by
  have hal := arcs_len l
  induction d with
  | zero =>
    intro i h hj
    have hr : InRoom (arcs l) f := fun j hjl => hj j (by omega)
    obtain ⟨zs, hz, hzl, hzx⟩ := l06Out_ev hn hf hr
    refine Ev.step (fun k => by rw [spec_FlowOk.l0, if_neg (by omega)]) (Ev.bind hz ?_)
    have e : boolP (FlowOk n (arcs l) f) = boolP (∀ x : Nat, 2 ≤ x → 2 ≤ x → (x : Int) < n → exc (arcs l) f l.length x = 0) := by
      rw [Bool.eq_iff_iff, boolP_iff, boolP_iff]
      constructor
      · intro hh x _ b c
        have := hh.2.2.2 x b c
        rwa [hal] at this
      · intro hh
        refine ⟨hn, by omega, hr, fun x b c => ?_⟩
        rw [hal]
        exact hh x b b c
    rw [e]
    have h0 := spec_nodes l zs (fun x => exc (arcs l) f l.length x) hzl hn.1.1 hn.1.2.1 hzx (n.toNat - 2) 2 (by omega) (by have := hn.1; omega)
    rw [show ((2 : Nat) : Int) = 2 from rfl] at h0
    exact h0
  | succ d ih =>
    intro i h hj
    have hi : i < l.length := by omega
    have hia : i < (arcs l).length := by rw [arcs_len]; exact hi
    have hif : i < f.length := by rw [hf]; exact hi
    have ti : ((i : Int)).toNat = i := Int.toNat_natCast i
    by_cases c1 : 0 ≤ f.getD i 0 ∧ f.getD i 0 ≤ (at_ (arcs l) i).r
    · refine Ev.step (fun k => ?_) (ih (i + 1) (by omega) (fun j hj2 => ?_))
      · have e2 : (rd_T67 l (i : Int)).f2 = (at_ (arcs l) i).r := by rw [at_2, ti]
        have ef : rd f (i : Int) = f.getD i 0 := by unfold rd; rw [ti]
        rw [spec_FlowOk.l0, if_pos (lt_i hif), if_pos (ge_i i), if_pos (lt_i hi), ef, e2, l01In_eq, Option.bind_some, if_pos (decide_eq_true c1), next_i hi hm]
      · rcases Nat.lt_or_ge j i with hji | hji
        · exact hj j hji
        · obtain rfl : j = i := by omega
          exact c1
    · rw [boolP_false (fun hh : FlowOk n (arcs l) f => c1 (hh.2.2.1 i hia))]
      exact Ev.step (f := fun _ => some false) (fun k => by
        have e2 : (rd_T67 l (i : Int)).f2 = (at_ (arcs l) i).r := by rw [at_2, ti]
        have ef : rd f (i : Int) = f.getD i 0 := by unfold rd; rw [ti]
        rw [spec_FlowOk.l0, if_pos (lt_i hif), if_pos (ge_i i), if_pos (lt_i hi), ef, e2, l01In_eq, Option.bind_some, if_neg (by rw [decide_eq_false c1]; simp)]) (Ev.now _)

theorem sFlowOk (n : Int) (l : List S67) (f : List Int) (hlen : l.length ≤ 1048576) : Ev (fun k => spec_FlowOk.f k n l f) (boolP (FlowOk n (arcs l) f)) := by
  have bad : ∀ hn : ¬ FlowOk n (arcs l) f, Ev (fun k => spec_FlowOk.j0 k f true n l) (boolP (FlowOk n (arcs l) f)) := fun hn => by
    rw [boolP_false hn]
    exact Ev.step (f := fun _ => some false) (fun k => by rw [spec_FlowOk.j0, if_pos rfl]) (Ev.now _)
  refine Ev.bind (sNetOk n l hlen) ?_
  by_cases hn : NetOk n (arcs l)
  · refine Ev.congr (fun k => by rw [if_pos (boolP_true hn)]) ?_
    by_cases hf : f.length = l.length
    · refine Ev.step (fun k => by rw [spec_FlowOk.j0, if_neg (by simp [hf])]) ?_
      have h0 := spec_ranges hn hf hlen l.length 0 (Nat.zero_add _) (fun j hj => absurd hj (by omega))
      rw [show ((0 : Nat) : Int) = 0 from rfl] at h0
      exact h0
    · have : ((f.length : Int) != (l.length : Int)) = true := by simp; omega
      simp only [this]
      exact bad (fun hh => hf (by have := hh.2.1; rw [arcs_len] at this; exact this))
  · refine Ev.congr (fun k => by rw [if_neg (by rw [boolP_false hn]; simp)]) (bad (fun hh => hn hh.1))

/-! spec.FlowCost -/
theorem sCost_l0 {n : Int} {l : List S67} {f : List Int} (hn : NetOk n (arcs l)) (hf : f.length = l.length) (hr : InRoom (arcs l) f) (hm : l.length ≤ 1048576) (d : Nat) : ∀ i : Nat, i + d = l.length →
    Ev (fun k => spec_FlowCost.l0 k f (costTo (arcs l) f i) i n l) (costTo (arcs l) f l.length) := by
  induction d with
  | zero =>
    intro i h
    obtain rfl : i = l.length := h
    exact Ev.step (f := fun _ => some _) (fun k => by rw [spec_FlowCost.l0, if_neg (by rw [hf]; exact nlt_i)]) (Ev.now _)
  | succ d ih =>
    intro i h
    have hi : i < l.length := by omega
    have hia : i < (arcs l).length := by rw [arcs_len]; exact hi
    have hif : i < f.length := by rw [hf]; exact hi
    obtain ⟨_, _, _, _, _, a6, a7, a8, a9⟩ := hn.2 i hia
    have hrm := hr i hia
    have p1 : f.getD i 0 * (at_ (arcs l) i).c ≤ 20 * 100 := Int.mul_le_mul (Int.le_trans hrm.2 a7) a9 a8 (by omega)
    have p2 : 0 ≤ f.getD i 0 * (at_ (arcs l) i).c := Int.mul_nonneg hrm.1 a8
    have hih := ih (i + 1) (by omega)
    refine Ev.step (fun k => ?_) hih
    have b2 := cost_bound hn hr (i + 1) hia
    have ti : ((i : Int)).toNat = i := Int.toNat_natCast i
    have e3 : (rd_T67 l (i : Int)).f3 = (at_ (arcs l) i).c := by rw [at_3, ti]
    have ef : rd f (i : Int) = f.getD i 0 := by unfold rd; rw [ti]
    have e : costTo (arcs l) f i + f.getD i 0 * (at_ (arcs l) i).c = costTo (arcs l) f (i + 1) := rfl
    rw [spec_FlowCost.l0, if_pos (lt_i hif), if_pos (ge_i i), if_pos (lt_i hi), ef, e3, w64s p2 p1 lt2000, e, w64s b2.1 b2.2 lt6400, next_i hi hm]

theorem sFlowCost (n : Int) (l : List S67) (f : List Int) (hlen : l.length ≤ 1048576) : Ev (fun k => spec_FlowCost.f k n l f) (flowCost n (arcs l) f) := by
  refine Ev.bind (sFlowOk n l f hlen) ?_
  unfold flowCost
  by_cases hn : FlowOk n (arcs l) f
  · rw [if_pos (boolP_true hn), arcs_len]
    have h0 := sCost_l0 hn.1 (by have := hn.2.1; rw [arcs_len] at this; exact this) hn.2.2.1 (by have := hn.1.1.2.2; rw [arcs_len] at this; omega) l.length 0 (Nat.zero_add _)
    rw [show costTo (arcs l) f 0 = 0 from rfl, show ((0 : Nat) : Int) = 0 from rfl] at h0
    exact Ev.congr (fun k => by rw [if_pos (boolP_true hn)]) h0
  · rw [if_neg (by rw [boolP_false hn]; simp)]
    exact Ev.of_eq fun k => by rw [if_neg (by rw [boolP_false hn]; simp)]

/-! spec.Cheapest -/
section
variable {n : Int} {l : List S67} {f d : List Int} {S : Nat → Bool} {P : Nat → Int} {r : List Int × Int × Bool}

theorem cs_l1 (hn : NetOk n (arcs l)) (hl : l.length ≤ 1048576) (hf : f.length = l.length) (hr : InRoom (arcs l) f) (hp : Pot n (arcs l) f S P) (a : Fin n (arcs l) f S P d) (size kk : Int) (p : List (Nat × Bool)) : ∀ (v : Int) (t : Nat) (g : List Int) (B : Int), (t : Int) + p.length < n → g.length = l.length → 0 ≤ B → B + p.length ≤ 1000000 → (∀ i : Nat, -B ≤ g.getD i 0 ∧ g.getD i 0 ≤ B) → PathL (arcs l) p v → Follow (arcs l) (ByT (arcs l) f d) p v →
    Ev (fun k => spec_Cheapest.l0 k size (pushAll g p 1) (wrap64 (kk + 1)) n l) r → Ev (fun k => spec_Cheapest.l1 k size f kk d g v t n l) r := by
  have n15 := hn.1.2.1
  induction p with
  | nil =>
    intro v t g B _ hg _ _ _ hpa _ h
    have hv : v = 0 := hpa
    refine Ev.step (fun k => by rw [spec_Cheapest.l1, if_pos hv]) ?_
    exact Ev.step (fun k => by rw [spec_Cheapest.j3, if_neg (by simp)]; rfl) h
  | cons s p ih =>
    intro v t g B ht hg hB0 hB hgB hpa hfo h
    obtain ⟨i, b⟩ := s
    obtain ⟨hi, hto, hpa'⟩ := hpa
    obtain ⟨hv0, hby, hfo'⟩ := hfo
    have hil : i < l.length := by rw [← arcs_len]; exact hi
    obtain ⟨e1, e2, e3, e4, _⟩ := Go.Proofs.Ytgkpgigoonhgdaa.MDist.ends_ok hn hi b
    have hlen : ((List.length ((i, b) :: p) : Nat) : Int) = p.length + 1 := by simp
    have vi : ((v.toNat : Nat) : Int) = v := by have := hby.1; omega
    have vn : v.toNat < n.toNat := by rw [← hto, ← e2]; omega
    have hgi := hgB i
    have hrec := ih (sFrom (arcs l) i b) (t + 1) (push g i b 1) (B + 1) (by omega) (by rw [push_len]; exact hg) (by omega) (by omega) (fun q => by
      rw [push_get (by rw [hg]; exact hil)]
      have := hgB q
      split
      · cases b
        · simp only [Bool.false_eq_true, if_false]; omega
        · simp only [if_true]; omega
      · omega) hpa' hfo' h
    have htn : (t : Int) < n := by omega
    have hw : wrap64 ((t : Int) + 1) = ((t + 1 : Nat) : Int) := by rw [w64 (by omega) (by omega)]; omega
    have hbk := back_ev hn hl hf hr hp a v.toNat vn
    rw [vi, show ft (arcs l) f d v.toNat l.length = some (i, b) by rw [← arcs_len]; exact hby.2] at hbk
    have at0 := at_0 l (i : Int)
    have at1 := at_1 l (i : Int)
    rw [Int.toNat_natCast] at at0 at1
    have eg : rd g (i : Int) = g.getD i 0 := by unfold rd; rw [Int.toNat_natCast]
    have il : (i : Int) < (l.length : Int) := Int.ofNat_lt.2 hil
    have ig : (i : Int) < (g.length : Int) := by rw [hg]; exact il
    have i0 : (0 : Int) ≤ (i : Int) := Int.natCast_nonneg i
    refine Ev.step (fun k => by rw [spec_Cheapest.l1, if_neg hv0, decide_eq_true htn]) ?_
    refine Ev.step (fun k => by rw [spec_Cheapest.j3, if_pos rfl]) (Ev.bind hbk ?_)
    cases b
    · have hc : codeB (some (i, false)) = (i : Int) + 1 := rfl
      have w1 : wrap64 ((i : Int) + 1 - 1) = (i : Int) := by clear hw hbk at0 at1 eg; rw [w64 (by omega) (by omega)]; omega
      have w2 : wrap64 (g.getD i 0 + 1) = g.getD i 0 + 1 := by clear hw w1 hbk at0 at1 eg; exact w64 (by omega) (by omega)
      have p0 : (i : Int) + 1 > 0 := by clear hw w1 w2 hbk at0 at1 eg; omega
      exact Ev.congr (fun k => by rw [hc, if_pos p0, w1, if_pos i0, if_pos ig, if_pos il, eg, w2, at0, Int.toNat_natCast, hw]; rfl) hrec
    · have hc : codeB (some (i, true)) = -(i : Int) - 1 := rfl
      have w0 : wrap64 (-(-(i : Int) - 1)) = (i : Int) + 1 := by clear hw hbk at0 at1 eg; rw [w64 (by omega) (by omega)]; omega
      have w1 : wrap64 ((i : Int) + 1 - 1) = (i : Int) := by clear hw w0 hbk at0 at1 eg; rw [w64 (by omega) (by omega)]; omega
      have w2 : wrap64 (g.getD i 0 - 1) = g.getD i 0 - 1 := by clear hw w1 w0 hbk at0 at1 eg; exact w64 (by omega) (by omega)
      have p0 : ¬ -(i : Int) - 1 > 0 := by clear hw w1 w2 w0 hbk at0 at1 eg; omega
      have p1 : -(i : Int) - 1 < 0 := by clear hw w1 w2 w0 hbk at0 at1 eg; omega
      exact Ev.congr (fun k => by rw [hc, if_neg p0, if_pos p1, w0, w1, if_pos i0, if_pos ig, if_pos il, eg, w2, at1, Int.toNat_natCast, hw]; rfl) hrec

theorem cs_l0 (hn : NetOk n (arcs l)) (hl : l.length ≤ 1048576) (size : Int) (hs : size ≤ 16) (m : Nat) : ∀ (q : Nat) (f : List Int), (q : Int) + m = size → FlowOk n (arcs l) f → RunIs n (arcs l) m f r → Ev (fun k => spec_Cheapest.l0 k size f q n l) r := by
  have n2 := hn.1.1
  have n15 := hn.1.2.1
  induction m with
  | zero =>
    intro q f hq hF hR
    have hR' : r = (f, costTo (arcs l) f (arcs l).length, true) := hR
    have hc := sFlowCost n l f hl
    unfold flowCost at hc
    rw [if_pos (boolP_true hF)] at hc
    rw [hR']
    exact Ev.step (fun k => by rw [spec_Cheapest.l0, if_neg (by omega)]) (Ev.bind hc (Ev.now _))
  | succ m ih =>
    intro q f hq hF hR
    have hf : f.length = l.length := by have := hF.2.1; rw [arcs_len] at this; exact this
    have hl32 := hn.1.2.2
    rw [arcs_len] at hl32
    have hw : wrap64 ((q : Int) + 1) = ((q + 1 : Nat) : Int) := by rw [w64 (by omega) (by omega)]; omega
    have hlt : (q : Int) < size := by omega
    rcases hR with ⟨S, P, d, hp, a, c, hr⟩ | ⟨S, P, d, p, hp, a, c, p1, p2, p3, p4, p5, hR⟩
    · have hdl : (1 : Int) < (d.length : Int) := by rw [a.len]; omega
      have e1 : rd d 1 = INF := c
      rw [hr]
      exact Ev.step (fun k => by rw [spec_Cheapest.l0, if_pos hlt]) (Ev.bind (far_ev hn hl hf hF.2.2.1 hp a) (Ev.of_eq fun k => by rw [if_pos hdl, e1, INF_eq, if_pos (Int.le_refl _)]))
    · have hdl : (1 : Int) < (d.length : Int) := by rw [a.len]; omega
      have e1 : rd d 1 = d.getD 1 0 := rfl
      obtain ⟨g1, g2⟩ := push_flow hF p p1 p3 1 (by omega) (fun s hs => by have := p5 s hs; omega)
      have h1 := ih (q + 1) _ (by omega) g1 hR
      have h2 := cs_l1 (r := r) hn hl hf hF.2.2.1 hp a size q p 1 0 f 20 (by omega) hf (by omega) (by omega) (flow_small hF) p1 p2 (by rw [hw]; exact h1)
      rw [show ((0 : Nat) : Int) = 0 from rfl] at h2
      refine Ev.step (fun k => by rw [spec_Cheapest.l0, if_pos hlt]) (Ev.bind (far_ev hn hl hf hF.2.2.1 hp a) ?_)
      rw [INF_eq] at c
      exact Ev.congr (fun k => by rw [if_pos hdl, e1, if_neg (by omega), Option.bind_some, if_pos (by rw [List.length_nil, hf]; omega), List.nil_append]) h2

theorem sCheapest (n : Int) (l : List S67) (size : Int) (hl : l.length ≤ 1048576) (hR : RunTop n (arcs l) size r) : Ev (fun k => spec_Cheapest.f k n l size) r := by
  have hN := sNetOk n l hl
  have bad : ∀ t, t = true → Ev (fun k => spec_Cheapest.j0 k size t n l) ([], 0, false) := fun t ht => Ev.step (f := fun _ => some ([], 0, false)) (fun k => by rw [spec_Cheapest.j0, if_pos ht]) (Ev.now _)
  rcases hR with ⟨h, hr⟩ | ⟨h, h0, h1, hR⟩
  · rw [hr]
    by_cases hn : NetOk n (arcs l)
    · rw [boolP_true hn] at hN
      have hc : decide (0 ≤ size ∧ size ≤ 16) = false := decide_eq_false (fun hh => h ⟨hn, hh.1, hh.2⟩)
      exact Ev.bind hN (Ev.congr (fun k => by rw [if_pos rfl, l01In_eq, Option.bind_some, hc]) (bad (!false) rfl))
    · rw [boolP_false hn] at hN
      exact Ev.bind hN (Ev.congr (fun k => by rw [if_neg (by simp)]) (bad true rfl))
  · rw [boolP_true h] at hN
    obtain ⟨z1, z2⟩ := zero_start h
    have h2 := cs_l0 (r := r) h hl size h1 size.toNat 0 _ (by omega) z1 hR
    rw [show ((0 : Nat) : Int) = 0 from rfl, arcs_len] at h2
    have hc : decide (0 ≤ size ∧ size ≤ 16) = true := decide_eq_true ⟨h0, h1⟩
    refine Ev.bind hN (Ev.congr (fun k => by rw [if_pos rfl, l01In_eq, Option.bind_some, hc]) ?_)
    exact Ev.step (fun k => by rw [spec_Cheapest.j0, if_neg (by simp), if_pos (by omega), if_pos (by omega), Int.toNat_natCast]) h2
end

end Go.Proofs.Ytgkpgigoonhgdaa.QFnExactLeastCost

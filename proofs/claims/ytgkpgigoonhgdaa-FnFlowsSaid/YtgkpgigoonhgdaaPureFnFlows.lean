/- Flows have their size, and the sum of two flows has the sum of their sizes and costs. -/
import Derived.Test.YtgkpgigoonhgdaaPFnFlowsx
import Derived.Test.YtgkpgigoonhgdaaMBase
import Derived.Test.YtgkpgigoonhgdaaMDraw
import Derived.Test.YtgkpgigoonhgdaaMLists
import Derived.Test.YtgkpgigoonhgdaaMNet
import Derived.Test.YtgkpgigoonhgdaaMCut
import Derived.Test.YtgkpgigoonhgdaaMDist
import Derived.Test.YtgkpgigoonhgdaaQFnFlowsAll0
namespace Go.Proofs.Ytgkpgigoonhgdaa.Pure
open Go.RowKit Go.Proofs.Ytgkpgigoonhgdaa.PFnFlows Go.Proofs.YtgkpgigoonhgdaaW.PrintWords Go.Proofs.YtgkpgigoonhgdaaW.PrintLast Go.Proofs.YtgkpgigoonhgdaaW.PrintMore Go.Proofs.Ytgkpgigoonhgdaa.MBase Go.Proofs.Ytgkpgigoonhgdaa.MDraw Go.Proofs.Ytgkpgigoonhgdaa.MLists Go.Proofs.Ytgkpgigoonhgdaa.MNet Go.Proofs.Ytgkpgigoonhgdaa.MCut Go.Proofs.Ytgkpgigoonhgdaa.MDist Go.Proofs.Ytgkpgigoonhgdaa.QFnFlows
set_option linter.unusedVariables false
set_option linter.unusedSimpArgs false

theorem twice_get {a : List Int} {l : List Arc} (ha : a.length = l.length) (hr : InRoom l a) {n : Int} (hn : NetOk n l) (j : Nat) : (sums a a a.length).getD j 0 = 2 * a.getD j 0 := by
  by_cases hj : j < a.length
  · rw [sums_get _ _ _ _ hj]
    have h1 := hr j (by omega)
    have h2 := (hn.2 j (by omega)).2.2.2.2.2
    rw [w64 (by omega) (by omega)]
    omega
  · rw [List.getD_eq_getElem?_getD, List.getD_eq_getElem?_getD, List.getElem?_eq_none (by rw [sums_len]; omega), List.getElem?_eq_none (by omega)]
    rfl

theorem exc_twice {l : List Arc} {a b : List Int} (h : ∀ j : Nat, b.getD j 0 = 2 * a.getD j 0) (x : Int) (m : Nat) : exc l b m x = 2 * exc l a m x := by
  induction m with
  | zero => rfl
  | succ m ih =>
    rw [exc_succ, exc_succ, ih, h]
    generalize a.getD m 0 = F
    by_cases c1 : (at_ l m).v = x <;> by_cases c2 : (at_ l m).u = x <;> simp only [c1, c2, if_true, if_false] <;> omega

theorem cost_twice {l : List Arc} {a b : List Int} (h : ∀ j : Nat, b.getD j 0 = 2 * a.getD j 0) (m : Nat) : costTo l b m = 2 * costTo l a m := by
  induction m with
  | zero => rfl
  | succ m ih =>
    have e : ∀ f : List Int, costTo l f (m + 1) = costTo l f m + f.getD m 0 * (at_ l m).c := fun _ => rfl
    rw [e, e, ih, h, Int.mul_assoc, Int.mul_add]

theorem FnFlows : laws_FnFlows.Pure := by
  intro l hl _ _
  by_cases hbig : (l.length : Int) > 1048576
  · exact ⟨0, by unfold laws_FnFlows.f laws_big.f; rw [Option.bind_some, if_pos (decide_eq_true hbig)]⟩
  obtain ⟨n, L, a, hn, hL, hF, hs0, hdraw⟩ := drawPushed_ev l hl
  have hL2 : L.length ≤ 1048576 := by omega
  have hal : a.length = L.length := by have := hF.2.1; rw [arcs_len] at this; exact this
  have n2 := hn.1.1
  have cap : ∀ xs : List Int, xs.length ≤ 4000 → ([] : List Int).length + xs.length < 17592186044416 := fun xs h => by rw [List.length_nil]; omega
  have ca := cap a (by omega)
  have eok := iFlowOk n L a hL2
  rw [boolP_true hF] at eok
  have esame := sameNet_same n L hL2
  have esz := iFlowSize n L a hL2
  have esz' := sFlowSize n L a hL2
  have hsz : flowSize n (arcs L) a = - exc (arcs L) a (arcs L).length 0 := by unfold flowSize; rw [if_pos (boolP_true hF)]
  have hsb := size_bound hF
  have emo := iFlowMore n L a a hL2
  have emo' := sFlowMore n L a a hL2
  obtain ⟨R, erch, hR⟩ := iReachedBy n L a hL2
  obtain ⟨hRl, hRch⟩ : R.length = n.toNat ∧ Rch (arcs L) a (fun x => R.getD x false) := by
    rcases hR with ⟨p1, _⟩ | ⟨_, p2, p3⟩
    · exact absurd hF p1
    · exact ⟨p2, p3⟩
  have hR0 : R.getD 0 false = true := hRch.zero
  rw [hsz] at esz esz'
  generalize hsv : - exc (arcs L) a (arcs L).length 0 = s at *
  have hml := flowMore_len n (arcs L) a a
  have cm := cap _ (Nat.le_trans hml (by omega))
  -- the end
  have fin : Ev (fun k => laws_FnFlows.j1 k a a s (flowMore n (arcs L) a a) false n L) true := by
    refine Ev.step (fun k => by rw [laws_FnFlows.j1, if_neg (by simp)]) ?_
    have none_ : (flowMore n (arcs L) a a).length = 0 → Ev (fun k => laws_FnFlows.j2 k a a s (flowMore n (arcs L) a a) true n L) true := fun h0 => by
      refine Ev.step (fun k => by rw [laws_FnFlows.j2, if_pos rfl, if_pos (by omega)]) (Ev.bind emo' ?_)
      exact Ev.of_eq fun k => by rw [h0]; rfl
    by_cases hb : boolP (FlowOk n (arcs L) (sums a a a.length)) = true
    · have e : flowMore n (arcs L) a a = sums a a a.length := by unfold flowMore; rw [if_pos ⟨boolP_true hF, boolP_true hF, hb⟩]
      have hlen : (flowMore n (arcs L) a a).length = a.length := by rw [e, sums_len]
      refine Ev.congr (fun k => by rw [if_pos (by omega)]) ?_
      by_cases h0 : a.length = 0
      · have := none_ (by omega)
        exact Ev.congr (fun k => by rw [show ((a.length : Int) == 0) = true from beq_iff_eq.2 (by omega)]) this
      · have hG := boolP_iff.1 hb
        have tw := twice_get hF.2.1 hF.2.2.1 hn
        rw [e] at cm ⊢
        have g1 := iFlowSize n L (sums a a a.length) hL2
        have g2 := iFlowCost n L (sums a a a.length) hL2
        have g3 := iFlowCost n L a hL2
        have f1 : flowSize n (arcs L) (sums a a a.length) = 2 * s := by
          unfold flowSize
          rw [if_pos (boolP_true hG), exc_twice tw]
          omega
        have f2 : flowCost n (arcs L) (sums a a a.length) = 2 * flowCost n (arcs L) a := by
          unfold flowCost
          rw [if_pos (boolP_true hG), if_pos (boolP_true hF), cost_twice tw]
        have f3 : 0 ≤ flowCost n (arcs L) a ∧ flowCost n (arcs L) a ≤ 6400000 := by
          unfold flowCost
          rw [if_pos (boolP_true hF)]
          exact cost_bound hn hF.2.2.1 _ (Nat.le_refl _)
        have w1 : wrap64 (2 * s) = 2 * s := w64 (by omega) (by omega)
        have w2 : wrap64 (2 * flowCost n (arcs L) a) = 2 * flowCost n (arcs L) a := w64 (by omega) (by omega)
        refine Ev.congr (fun k => by rw [show ((a.length : Int) == 0) = false from beq_eq_false_iff_ne.2 (by omega)]) ?_
        refine Ev.step (fun k => by rw [laws_FnFlows.j2, if_neg (by simp), Option.bind_some, if_pos cm, List.nil_append]) (Ev.bind g1 ?_)
        refine Ev.congr (fun k => by rw [f1, w1, if_pos rfl, Option.bind_some, if_pos cm, List.nil_append]) (Ev.bind g2 ?_)
        refine Ev.congr (fun k => by rw [Option.bind_some, if_pos ca, List.nil_append]) (Ev.bind g3 ?_)
        exact Ev.of_eq fun k => by rw [w2, f2]; simp
    · have e : flowMore n (arcs L) a a = [] := by unfold flowMore; rw [if_neg (fun h => hb h.2.2)]
      have h0 : (flowMore n (arcs L) a a).length = 0 := by rw [e]; rfl
      have := none_ h0
      by_cases hc : ((flowMore n (arcs L) a a).length : Int) = (a.length : Int)
      · exact Ev.congr (fun k => by rw [if_pos hc, show ((a.length : Int) == 0) = true from beq_iff_eq.2 (by omega)]) this
      · exact Ev.congr (fun k => by rw [if_neg hc]) this
  refine Ev.rounds (Ev.congr (fun k => by unfold laws_FnFlows.f laws_big.f; rw [Option.bind_some, if_neg (by rw [decide_eq_false hbig]; simp)]) (Ev.bind hdraw ?_))
  refine Ev.bind hdraw ?_
  refine Ev.congr (fun k => by rw [Option.bind_some, if_pos ca, List.nil_append]) (Ev.bind eok ?_)
  refine Ev.congr (fun k => by rw [if_pos rfl]) (Ev.bind esame ?_)
  refine Ev.step (fun k => by rw [laws_FnFlows.j0, if_neg (by simp), Option.bind_some, if_pos ca, List.nil_append]) (Ev.bind esz ?_)
  refine Ev.congr (fun k => by rw [Option.bind_some, if_pos ca, Option.bind_some, if_pos ca, List.nil_append]) (Ev.bind emo ?_)
  refine Ev.congr (fun k => by rw [Option.bind_some, if_pos ca, List.nil_append]) (Ev.bind erch ?_)
  refine Ev.bind esz' ?_
  exact Ev.congr (fun k => by rw [if_pos rfl, if_neg (by omega), if_pos (by rw [hRl]; omega), if_pos (by rw [hRl]; omega), show (!(rdOf false R 0)) = false by show (!(R.getD 0 false)) = false; rw [hR0]; rfl]) fin

end Go.Proofs.Ytgkpgigoonhgdaa.Pure

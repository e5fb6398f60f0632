/- A minimum-cost flow has the given size and cost, exists up to the maximum size, and each further unit costs at least as much as the previous one. -/
import Derived.Test.YtgkpgigoonhgdaaPFnCheapestx
import Derived.Test.YtgkpgigoonhgdaaMBase
import Derived.Test.YtgkpgigoonhgdaaMDraw
import Derived.Test.YtgkpgigoonhgdaaMLists
import Derived.Test.YtgkpgigoonhgdaaMNet
import Derived.Test.YtgkpgigoonhgdaaMCut
import Derived.Test.YtgkpgigoonhgdaaMDist
import Derived.Test.YtgkpgigoonhgdaaMCheap
import Derived.Test.YtgkpgigoonhgdaaMSpfa
import Derived.Test.YtgkpgigoonhgdaaQFnCheapestAll0
namespace Go.Proofs.Ytgkpgigoonhgdaa.Pure
open Go.RowKit Go.Proofs.Ytgkpgigoonhgdaa.PFnCheapest Go.Proofs.YtgkpgigoonhgdaaW.PrintWords Go.Proofs.YtgkpgigoonhgdaaW.PrintLast Go.Proofs.YtgkpgigoonhgdaaW.PrintMore Go.Proofs.Ytgkpgigoonhgdaa.MBase Go.Proofs.Ytgkpgigoonhgdaa.MDraw Go.Proofs.Ytgkpgigoonhgdaa.MLists Go.Proofs.Ytgkpgigoonhgdaa.MNet Go.Proofs.Ytgkpgigoonhgdaa.MCut Go.Proofs.Ytgkpgigoonhgdaa.MDist Go.Proofs.Ytgkpgigoonhgdaa.MCheap Go.Proofs.Ytgkpgigoonhgdaa.MSpfa Go.Proofs.Ytgkpgigoonhgdaa.QFnCheapest
set_option linter.unusedVariables false
set_option linter.unusedSimpArgs false

section
variable {n m : Int} {l : List S67} {s : List Bool}

/-- the law's loop: what is known of the run before this one -/
def Known (n : Int) (l : List Arc) (k : Nat) (last step : Int) : Prop := (k = 0 ∧ last = 0 ∧ step = 0) ∨ ∃ (j : Nat) (g : List Int), k = j + 1 ∧ RunIs n l j (List.replicate l.length 0) (g, last, true) ∧ NextGe n l g step

theorem cheap_l0 (hn : NetOk n (arcs l)) (hl : l.length ≤ 1048576) (hm : MostIs n (arcs l) m s) (q : Nat) : ∀ (k : Nat) (last step : Int), k + q = 9 → 0 ≤ last ∧ last ≤ 6400000 → Known n (arcs l) k last step → Ev (fun k_ => laws_FnCheapest.l0 k_ m last step k n l) true := by
  obtain ⟨z1, z2⟩ := zero_flow hn
  induction q with
  | zero =>
    intro k last step hk _ _
    exact Ev.step (f := fun _ => some true) (fun k_ => by rw [laws_FnCheapest.l0, if_neg (by omega)]) (Ev.now _)
  | succ q ih =>
    intro k last step hk hlast hkn
    have hk8 : (k : Int) ≤ 8 := by omega
    have hk9 : k + 1 + q = 9 := by omega
    have hw2 : wrap64 ((k : Int) + 1) = ((k + 1 : Nat) : Int) := by rw [w64 (by omega) (by omega)]; omega
    obtain ⟨⟨g, c, ok⟩, hev, hR⟩ := iCheapest n l k hl
    have hrun : RunIs n (arcs l) k (List.replicate (arcs l).length 0) (g, c, ok) := by
      rcases hR with ⟨h, _⟩ | ⟨_, _, _, h⟩
      · exact absurd ⟨hn, by omega, by omega⟩ h
      · rw [Int.toNat_natCast] at h; exact h
    have hL : Ev (fun k_ => impl_LeastCost.f k_ n l k) (if ok = true then c else -1) := Ev.bind hev (Ev.of_eq fun k_ => by cases ok <;> rfl)
    cases ok with
    | false =>
      -- it stops: no flow is greater
      have hstop : 0 < k ∧ m < (k : Int) := by
        rcases hkn with ⟨rfl, _, _⟩ | ⟨j, g', rfl, hj, _⟩
        · have e : (g, c, false) = (List.replicate (arcs l).length 0, _, true) := hrun
          cases e
        · have h1 := run_link j _ g' last _ hn hj hrun
          obtain ⟨f1, f2, f3⟩ := run_ok j _ _ z1 hj rfl
          have h2 := run_stop f1 h1 rfl hm
          have f3' : exc (arcs l) g' (arcs l).length 0 = exc (arcs l) (List.replicate (arcs l).length 0) (arcs l).length 0 - j := f3
          omega
      refine Ev.step (fun k_ => by rw [laws_FnCheapest.l0, if_pos hk8]) (Ev.bind hev ?_)
      refine Ev.congr (fun k_ => by rw [if_neg (by rw [decide_eq_false (show ¬ (k : Int) ≤ m by omega)]; simp), if_neg (by simp)]) (Ev.bind (a := (-1 : Int)) (by simpa using hL) ?_)
      exact Ev.of_eq fun k_ => by rw [if_pos rfl, decide_eq_true (show (k : Int) > 0 by omega)]
    | true =>
      obtain ⟨f1, f2, f3⟩ := run_ok k _ _ z1 hrun rfl
      have f1 : FlowOk n (arcs l) g := f1
      have f2 : c = costTo (arcs l) g (arcs l).length := f2
      have f3 : exc (arcs l) g (arcs l).length 0 = exc (arcs l) (List.replicate (arcs l).length 0) (arcs l).length 0 - k := f3
      have hge := most_ge f1 hm
      have hcb := cost_bound hn f1.2.2.1 (arcs l).length (Nat.le_refl _)
      rw [← f2] at hcb
      have hkm : (k : Int) ≤ m := by omega
      have hnext : step ≤ c - last ∧ NextGe n (arcs l) g (c - last) := by
        rcases hkn with ⟨rfl, rfl, rfl⟩ | ⟨j, g', rfl, hj, hs⟩
        · have e : (g, c, true) = (List.replicate (arcs l).length 0, costTo (arcs l) (List.replicate (arcs l).length 0) (arcs l).length, true) := hrun
          have e1 : g = List.replicate (arcs l).length 0 := congrArg Prod.fst e
          have e2 : c = 0 := by rw [f2, e1]; exact zero_cost _
          rw [e1, e2]
          exact ⟨by omega, zero_next hn⟩
        · have h1 := run_link j _ g' last _ hn hj hrun
          obtain ⟨p1, p2, _⟩ := run_ok j _ _ z1 hj rfl
          have p2' : last = costTo (arcs l) g' (arcs l).length := p2
          have h2 := run_more p1 h1 rfl hs
          rw [p2']; exact h2
      have hlen : g.length = l.length := by have := f1.2.1; rw [arcs_len] at this; exact this
      have hl32 : l.length ≤ 3200 := by have := hn.1.2.2; rw [arcs_len] at this; exact this
      have cap : ([] : List Int).length + g.length < 17592186044416 := by rw [List.length_nil]; omega
      have eok := iFlowOk n l g hl
      rw [boolP_true f1] at eok
      have esz := iFlowSize n l g hl
      have esz' : flowSize n (arcs l) g = (k : Int) := by unfold flowSize; rw [if_pos (boolP_true f1)]; omega
      have eco := iFlowCost n l g hl
      have eco' : flowCost n (arcs l) g = c := by unfold flowCost; rw [if_pos (boolP_true f1)]; exact f2.symm
      have hw : wrap64 (c - last) = c - last := w64 (by omega) (by omega)
      have hrec := ih (k + 1) c (c - last) hk9 hcb (.inr ⟨k, g, rfl, by exact hrun, hnext.2⟩)
      refine Ev.step (fun k_ => by rw [laws_FnCheapest.l0, if_pos hk8]) (Ev.bind hev ?_)
      refine Ev.congr (fun k_ => by rw [if_neg (by rw [decide_eq_true hkm]; simp), if_pos rfl, Option.bind_some, if_pos cap, List.nil_append]) (Ev.bind eok ?_)
      refine Ev.congr (fun k_ => by rw [if_pos rfl, Option.bind_some, if_pos cap, List.nil_append]) (Ev.bind esz ?_)
      refine Ev.congr (fun k_ => by rw [if_pos esz', Option.bind_some, if_pos cap, List.nil_append]) (Ev.bind eco ?_)
      refine Ev.congr (fun k_ => by rw [if_pos eco']) (Ev.bind (a := c) (by simpa using hL) ?_)
      exact Ev.congr (fun k_ => by rw [if_pos rfl, hw, if_neg (by have := hnext.1; omega), hw2]) hrec
end

theorem FnCheapest : laws_FnCheapest.Pure := by
  intro l hl _ _
  by_cases hbig : (l.length : Int) > 1048576
  · exact ⟨0, by unfold laws_FnCheapest.f laws_big.f; rw [Option.bind_some, if_pos (decide_eq_true hbig)]⟩
  obtain ⟨h0, e0⟩ := new_ev l
  obtain ⟨n, L, i', h', hn, hL, hi', e1⟩ := right06_ev l hl 0 h0 (Int.le_refl _)
  have hdraw : Ev (fun k => spec_DrawNet.f k l) (n, L) := Ev.bind e0 (Ev.bind e1 (Ev.now _))
  have hL2 : L.length ≤ 1048576 := by omega
  obtain ⟨m, s, hi, hM⟩ := iMostFlow n L hL2
  have hz := cheap_l0 hn hL2 hM 9 0 0 0 (by omega) ⟨by omega, by omega⟩ (.inl ⟨rfl, rfl, rfl⟩)
  rw [show ((0 : Nat) : Int) = 0 from rfl] at hz
  refine Ev.rounds (Ev.congr (fun k => by unfold laws_FnCheapest.f laws_big.f; rw [Option.bind_some, if_neg (by rw [decide_eq_false hbig]; simp)]) (Ev.bind hdraw ?_))
  exact Ev.bind hi hz

end Go.Proofs.Ytgkpgigoonhgdaa.Pure

/- The program's MostFlow returns what the reference's returns, for all arguments. -/
import Derived.Test.YtgkpgigoonhgdaaPFnExactMostFlowx
import Derived.Test.YtgkpgigoonhgdaaMBase
import Derived.Test.YtgkpgigoonhgdaaMLists
import Derived.Test.YtgkpgigoonhgdaaMNet
import Derived.Test.YtgkpgigoonhgdaaMCut
import Derived.Test.YtgkpgigoonhgdaaMDist
import Derived.Test.YtgkpgigoonhgdaaMMarks
import Derived.Test.YtgkpgigoonhgdaaQFnExactMostFlowAll0
namespace Go.Proofs.Ytgkpgigoonhgdaa.Pure
open Go.RowKit Go.Proofs.Ytgkpgigoonhgdaa.PFnExactMostFlow Go.Proofs.YtgkpgigoonhgdaaW.PrintWords Go.Proofs.YtgkpgigoonhgdaaW.PrintLast Go.Proofs.YtgkpgigoonhgdaaW.PrintMore Go.Proofs.Ytgkpgigoonhgdaa.MBase Go.Proofs.Ytgkpgigoonhgdaa.MLists Go.Proofs.Ytgkpgigoonhgdaa.MNet Go.Proofs.Ytgkpgigoonhgdaa.MCut Go.Proofs.Ytgkpgigoonhgdaa.MDist Go.Proofs.Ytgkpgigoonhgdaa.MMarks Go.Proofs.Ytgkpgigoonhgdaa.QFnExactMostFlow
set_option linter.unusedVariables false
set_option linter.unusedSimpArgs false

theorem FnExactMostFlow (n : Int) (l : List S91) (_ : (Lit.int .i64 n).wf = true) (hl : l.length ≤ 9223372036854775807) (_ : ∀ a ∈ l, (Lit.int .i64 a.f0).wf = true ∧ (Lit.int .i64 a.f1).wf = true ∧ (Lit.int .i64 a.f2).wf = true ∧ (Lit.int .i64 a.f3).wf = true) : ∃ k, laws_FnExactMostFlow.f k n l = some true := by
  rcases szNet_ev n l hl with ⟨t, ht, hn⟩ | ⟨hl2, t, ht, hn⟩
  · exact ⟨0, by unfold laws_FnExactMostFlow.f; rw [ht, Option.bind_some, if_pos hn]⟩
  refine Ev.rounds (Ev.congr (fun k => by unfold laws_FnExactMostFlow.f; rw [ht, Option.bind_some, if_neg hn]) ?_)
  have hm : (l.map conv).length ≤ 1048576 := by rw [List.length_map]; exact hl2
  have hto := toNet_ev n l hl2
  obtain ⟨m, xs, hs, ps⟩ := sMostFlow n (l.map conv) hm
  obtain ⟨m', xs', hi, pi⟩ := iMostFlow n (l.map conv) hm
  obtain ⟨rfl, rfl⟩ := pi.unique ps
  have hlen := ps.bounds
  have eqx := eqBoolS_same xs' (by omega)
  obtain ⟨m1, z1, m1a, m1b, hm1⟩ := markNet_any n (l.map conv) 1 hm (by omega) (by omega)
  obtain ⟨ys, hy, hmark, hheld⟩ := marks_bool xs' (by omega) 1 (by omega) (by omega)
  have hq : ¬ ((1 : Int) + xs'.length < 0) := by omega
  refine Ev.bind hto ?_
  refine Ev.bind hs ?_
  refine Ev.bind hto ?_
  refine Ev.bind hi ?_
  refine Ev.congr (fun k => by rw [if_pos rfl]) (Ev.bind eqx ?_)
  refine Ev.step (fun k => by rw [laws_FnExactMostFlow.j0, if_neg (by simp)]) ?_
  refine Ev.bind hto ?_
  refine Ev.bind (eqNet_same n _ hm) ?_
  refine Ev.congr (fun k => by rw [if_pos rfl]) (Ev.bind hm1 ?_)
  refine Ev.congr (fun k => by dsimp only; rw [if_neg (by omega), if_pos rfl]) (Ev.bind eqx ?_)
  refine Ev.step (fun k => by rw [laws_FnExactMostFlow.j1, if_neg (by simp)]) ?_
  refine Ev.bind hmark ?_
  refine Ev.bind hheld ?_
  refine Ev.congr (fun k => by rw [if_neg hq, if_pos rfl]) (Ev.bind hto ?_)
  refine Ev.bind hi ?_
  refine Ev.congr (fun k => by rw [if_pos rfl]) (Ev.bind eqx ?_)
  refine Ev.step (fun k => by rw [laws_FnExactMostFlow.j2, if_neg (by simp)]) ?_
  refine Ev.bind hheld ?_
  exact Ev.of_eq fun k => by rw [if_neg hq, if_pos rfl]

end Go.Proofs.Ytgkpgigoonhgdaa.Pure

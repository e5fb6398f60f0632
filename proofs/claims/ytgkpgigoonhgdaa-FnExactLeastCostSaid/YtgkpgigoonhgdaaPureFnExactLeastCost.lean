/- The program's LeastCost returns what the reference's returns, for all arguments. -/
import Derived.Test.YtgkpgigoonhgdaaPFnExactLeastCostx
import Derived.Test.YtgkpgigoonhgdaaMBase
import Derived.Test.YtgkpgigoonhgdaaMLists
import Derived.Test.YtgkpgigoonhgdaaMNet
import Derived.Test.YtgkpgigoonhgdaaMCut
import Derived.Test.YtgkpgigoonhgdaaMDist
import Derived.Test.YtgkpgigoonhgdaaMCheap
import Derived.Test.YtgkpgigoonhgdaaMSpfa
import Derived.Test.YtgkpgigoonhgdaaQFnExactLeastCostAll0
namespace Go.Proofs.Ytgkpgigoonhgdaa.Pure
open Go.RowKit Go.Proofs.Ytgkpgigoonhgdaa.PFnExactLeastCost Go.Proofs.YtgkpgigoonhgdaaW.PrintWords Go.Proofs.YtgkpgigoonhgdaaW.PrintLast Go.Proofs.YtgkpgigoonhgdaaW.PrintMore Go.Proofs.Ytgkpgigoonhgdaa.MBase Go.Proofs.Ytgkpgigoonhgdaa.MLists Go.Proofs.Ytgkpgigoonhgdaa.MNet Go.Proofs.Ytgkpgigoonhgdaa.MCut Go.Proofs.Ytgkpgigoonhgdaa.MDist Go.Proofs.Ytgkpgigoonhgdaa.MCheap Go.Proofs.Ytgkpgigoonhgdaa.MSpfa Go.Proofs.Ytgkpgigoonhgdaa.QFnExactLeastCost
set_option linter.unusedVariables false
set_option linter.unusedSimpArgs false

theorem FnExactLeastCost (n : Int) (l : List S91) (size : Int) (_ : (Lit.int .i64 n).wf = true) (hl : l.length ≤ 9223372036854775807) (_ : ∀ a ∈ l, (Lit.int .i64 a.f0).wf = true ∧ (Lit.int .i64 a.f1).wf = true ∧ (Lit.int .i64 a.f2).wf = true ∧ (Lit.int .i64 a.f3).wf = true) (_ : (Lit.int .i64 size).wf = true) : ∃ k, laws_FnExactLeastCost.f k n l size = some true := by
  rcases szNet_ev n l hl with ⟨t, ht, hn⟩ | ⟨hl2, t, ht, hn⟩
  · exact ⟨0, by unfold laws_FnExactLeastCost.f; rw [ht, Option.bind_some, if_pos hn]⟩
  refine Ev.rounds (Ev.congr (fun k => by unfold laws_FnExactLeastCost.f; rw [ht, Option.bind_some, if_neg hn]) ?_)
  have hm : (l.map conv).length ≤ 1048576 := by rw [List.length_map]; exact hl2
  have hto := toNet_ev n l hl2
  obtain ⟨⟨g, c, ok⟩, hi, hR⟩ := iCheapest n (l.map conv) size hm
  have hs := sCheapest n (l.map conv) size hm hR
  have hi2 : Ev (fun k => impl_LeastCost.f k n (l.map conv) size) (if ok = true then c else -1) := Ev.bind hi (Ev.of_eq fun k => by cases ok <;> rfl)
  have hs2 : Ev (fun k => spec_LeastCost.f k n (l.map conv) size) (if ok = true then c else -1) := Ev.bind hs (Ev.of_eq fun k => by cases ok <;> rfl)
  refine Ev.bind hto ?_
  refine Ev.bind hs2 ?_
  refine Ev.bind hto ?_
  refine Ev.bind hi2 ?_
  refine Ev.congr (fun k => by rw [if_pos rfl]) (Ev.bind hto ?_)
  refine Ev.bind (eqNet_same n _ hm) ?_
  exact Ev.of_eq fun k => by rw [if_pos rfl]

end Go.Proofs.Ytgkpgigoonhgdaa.Pure

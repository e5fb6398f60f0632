/- The program's SpotOf returns what the reference's returns, for all arguments. -/
import Derived.Test.YtkmbefadmoidbaaPFnExactSpotOfx
import Derived.Test.YtkmbefadmoidbaaMBase
import Derived.Test.YtkmbefadmoidbaaMGrid
import Derived.Test.YtkmbefadmoidbaaQFnExactSpotOfAll0
namespace Go.Proofs.Ytkmbefadmoidbaa.Pure
open Go.RowKit Go.Proofs.Ytkmbefadmoidbaa.PFnExactSpotOf Go.Proofs.YtkmbefadmoidbaaW.PrintWords Go.Proofs.YtkmbefadmoidbaaW.PrintLast Go.Proofs.YtkmbefadmoidbaaW.PrintMore Go.Proofs.Ytkmbefadmoidbaa.MBase Go.Proofs.Ytkmbefadmoidbaa.MGrid Go.Proofs.Ytkmbefadmoidbaa.QFnExactSpotOf
set_option linter.unusedVariables false
set_option linter.unusedSimpArgs false

theorem FnExactSpotOf (w h : Int) (c : ByteArray) (x : Int) (_ : (Lit.int .i64 w).wf = true) (_ : (Lit.int .i64 h).wf = true) (hc : c.size ≤ maxLen) (_ : (Lit.int .i64 x).wf = true) : ∃ k, laws_FnExactSpotOf.f k w h c x = some true := by
  rcases szGrid_ev w h c (by unfold maxLen at hc; omega) with ⟨t, ht, hn⟩ | ⟨_, t, ht, hn⟩
  · exact ⟨0, by unfold laws_FnExactSpotOf.f; rw [ht, Option.bind_some, if_pos hn]⟩
  refine Ev.rounds (Ev.congr (fun k => by unfold laws_FnExactSpotOf.f laws_toGrid.f; rw [ht, Option.bind_some, if_neg hn, Option.bind_some]) ?_)
  refine Ev.bind (sSpotOf w h c x ) (Ev.congr (fun k => by rw [Option.bind_some]) (Ev.bind (iSpotOf w h c x ) ?_))
  simp only [bne_self_eq_false, Bool.false_eq_true, if_false, if_true]
  exact Ev.now _

end Go.Proofs.Ytkmbefadmoidbaa.Pure

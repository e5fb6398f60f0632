/- The program's CellAt returns what the reference's returns, for all arguments. -/
import Derived.Test.YtkmbefadmoidbaaPFnExactCellAtx
import Derived.Test.YtkmbefadmoidbaaMBase
import Derived.Test.YtkmbefadmoidbaaMGrid
import Derived.Test.YtkmbefadmoidbaaQFnExactCellAtAll0
namespace Go.Proofs.Ytkmbefadmoidbaa.Pure
open Go.RowKit Go.Proofs.Ytkmbefadmoidbaa.PFnExactCellAt Go.Proofs.YtkmbefadmoidbaaW.PrintWords Go.Proofs.YtkmbefadmoidbaaW.PrintLast Go.Proofs.YtkmbefadmoidbaaW.PrintMore Go.Proofs.Ytkmbefadmoidbaa.MBase Go.Proofs.Ytkmbefadmoidbaa.MGrid Go.Proofs.Ytkmbefadmoidbaa.QFnExactCellAt
set_option linter.unusedVariables false
set_option linter.unusedSimpArgs false

theorem FnExactCellAt (w h : Int) (c : ByteArray) (x y : Int) (_ : (Lit.int .i64 w).wf = true) (_ : (Lit.int .i64 h).wf = true) (hc : c.size ≤ maxLen) (hx : (Lit.int .i64 x).wf = true) (hy : (Lit.int .i64 y).wf = true) : ∃ k, laws_FnExactCellAt.f k w h c x y = some true := by
  rcases szGrid_ev w h c (by unfold maxLen at hc; omega) with ⟨t, ht, hn⟩ | ⟨_, t, ht, hn⟩
  · exact ⟨0, by unfold laws_FnExactCellAt.f; rw [ht, Option.bind_some, if_pos hn]⟩
  refine Ev.rounds (Ev.congr (fun k => by unfold laws_FnExactCellAt.f laws_toGrid.f; rw [ht, Option.bind_some, if_neg hn, Option.bind_some]) ?_)
  refine Ev.bind (sCellAt w h c x y ) (Ev.congr (fun k => by rw [Option.bind_some]) (Ev.bind (iCellAt w h c x y ) ?_))
  simp only [bne_self_eq_false, Bool.false_eq_true, if_false, if_true]
  exact Ev.now _

end Go.Proofs.Ytkmbefadmoidbaa.Pure

/- The program's FreeCells returns what the reference's returns, for all arguments. -/
import Derived.Test.YtkmbefadmoidbaaPFnExactFreeCellsx
import Derived.Test.YtkmbefadmoidbaaMBase
import Derived.Test.YtkmbefadmoidbaaMGrid
import Derived.Test.YtkmbefadmoidbaaMMarks
import Derived.Test.YtkmbefadmoidbaaQFnExactFreeCellsAll0
namespace Go.Proofs.Ytkmbefadmoidbaa.Pure
open Go.RowKit Go.Proofs.Ytkmbefadmoidbaa.PFnExactFreeCells Go.Proofs.YtkmbefadmoidbaaW.PrintWords Go.Proofs.YtkmbefadmoidbaaW.PrintLast Go.Proofs.YtkmbefadmoidbaaW.PrintMore Go.Proofs.Ytkmbefadmoidbaa.MBase Go.Proofs.Ytkmbefadmoidbaa.MGrid Go.Proofs.Ytkmbefadmoidbaa.MMarks Go.Proofs.Ytkmbefadmoidbaa.QFnExactFreeCells
set_option linter.unusedVariables false
set_option linter.unusedSimpArgs false

theorem FnExactFreeCells (w h : Int) (c : ByteArray) (_ : (Lit.int .i64 w).wf = true) (_ : (Lit.int .i64 h).wf = true) (hc : c.size ≤ maxLen) : ∃ k, laws_FnExactFreeCells.f k w h c = some true := by
  rcases szGrid_ev w h c (by unfold maxLen at hc; omega) with ⟨t, ht, hn⟩ | ⟨_, t, ht, hn⟩
  · exact ⟨0, by unfold laws_FnExactFreeCells.f; rw [ht, Option.bind_some, if_pos hn]⟩
  refine Ev.rounds (Ev.congr (fun k => by unfold laws_FnExactFreeCells.f laws_toGrid.f; rw [ht, Option.bind_some, if_neg hn, Option.bind_some]) ?_)
  have hs := sFreeCells w h c 
  have hi := iFreeCells w h c 
  have hl : (freeCells w h c).length < 1099511627776 := by have := freeCells_len w h c; omega
  generalize freeCells w h c = xs at hs hi hl
  have heq := eqIntS_same xs hl
  obtain ⟨ys, hy, hmark, hheld⟩ := marks_int xs hl 1 (by omega) (by omega)
  have hq : ¬ ((1 : Int) + xs.length < 0) := by omega
  refine Ev.bind hs (Ev.congr (fun k => by rw [Option.bind_some]) (Ev.bind hi (Ev.bind heq ?_)))
  refine Ev.congr (fun k => by rw [if_pos rfl]) (Ev.bind hmark (Ev.bind hheld ?_))
  refine Ev.congr (fun k => by rw [if_neg hq, if_pos rfl, Option.bind_some]) (Ev.bind hi (Ev.bind heq ?_))
  refine Ev.congr (fun k => by rw [if_pos rfl]) (Ev.bind hheld ?_)
  exact Ev.of_eq fun k => by rw [if_neg hq, if_pos rfl]

end Go.Proofs.Ytkmbefadmoidbaa.Pure

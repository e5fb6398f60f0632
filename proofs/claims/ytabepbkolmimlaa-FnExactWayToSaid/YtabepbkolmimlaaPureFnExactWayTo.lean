/- The program's WayTo returns what the reference's returns, for all arguments. -/
import Derived.Test.YtabepbkolmimlaaPFnExactWayTox
import Derived.Test.YtabepbkolmimlaaMBase
import Derived.Test.YtabepbkolmimlaaMGrid
import Derived.Test.YtabepbkolmimlaaMLists
import Derived.Test.YtabepbkolmimlaaMSteps
import Derived.Test.YtabepbkolmimlaaMScan
import Derived.Test.YtabepbkolmimlaaMMarks
import Derived.Test.YtabepbkolmimlaaQFnExactWayToAll0
import Derived.Test.YtabepbkolmimlaaQFnExactWayToAll1
namespace Go.Proofs.Ytabepbkolmimlaa.Pure
open Go.RowKit Go.Proofs.Ytabepbkolmimlaa.PFnExactWayTo Go.Proofs.YtabepbkolmimlaaW.PrintWords Go.Proofs.YtabepbkolmimlaaW.PrintLast Go.Proofs.YtabepbkolmimlaaW.PrintMore Go.Proofs.Ytabepbkolmimlaa.MBase Go.Proofs.Ytabepbkolmimlaa.MGrid Go.Proofs.Ytabepbkolmimlaa.MLists Go.Proofs.Ytabepbkolmimlaa.MSteps Go.Proofs.Ytabepbkolmimlaa.MScan Go.Proofs.Ytabepbkolmimlaa.MMarks Go.Proofs.Ytabepbkolmimlaa.QFnExactWayTo
set_option linter.unusedVariables false
set_option linter.unusedSimpArgs false

theorem FnExactWayTo (w h : Int) (c : ByteArray) (a b : Int) (_ : (Lit.int .i64 w).wf = true) (_ : (Lit.int .i64 h).wf = true) (hc : c.size ≤ maxLen) (_ : (Lit.int .i64 a).wf = true) (_ : (Lit.int .i64 b).wf = true) : ∃ k, laws_FnExactWayTo.f k w h c a b = some true := by
  rcases szGrid_ev w h c (by unfold maxLen at hc; omega) with ⟨t, ht, hn⟩ | ⟨_, t, ht, hn⟩
  · exact ⟨0, by unfold laws_FnExactWayTo.f; rw [ht, Option.bind_some, if_pos hn]⟩
  refine Ev.rounds (Ev.congr (fun k => by unfold laws_FnExactWayTo.f laws_toGrid.f; rw [ht, Option.bind_some, if_neg hn, Option.bind_some]) ?_)
  obtain ⟨xs, hs, hsA⟩ := sWayTo w h c a b
  obtain ⟨ys, hi, hiA⟩ := iWayTo w h c a b
  obtain rfl : ys = xs := hiA.unique hsA
  have hl : ys.length < 1099511627776 := by
    obtain ⟨n, _, ⟨_, e⟩ | ⟨m, far, _, h64, _, _, _, _, e⟩⟩ := hsA
    · rw [e]; simp
    · rw [e, List.length_append, wayL_len, List.length_singleton]; omega
  have heq := eqIntS_same ys hl
  obtain ⟨zs, hy, hmark, hheld⟩ := marks_int ys hl 1 (by omega) (by omega)
  have hq : ¬ ((1 : Int) + ys.length < 0) := by omega
  refine Ev.bind hs (Ev.congr (fun k => by rw [Option.bind_some]) (Ev.bind hi (Ev.bind heq ?_)))
  refine Ev.congr (fun k => by rw [if_pos rfl]) (Ev.bind hmark (Ev.bind hheld ?_))
  refine Ev.congr (fun k => by rw [if_neg hq, if_pos rfl, Option.bind_some]) (Ev.bind hi (Ev.bind heq ?_))
  refine Ev.congr (fun k => by rw [if_pos rfl]) (Ev.bind hheld ?_)
  exact Ev.of_eq fun k => by rw [if_neg hq, if_pos rfl]

end Go.Proofs.Ytabepbkolmimlaa.Pure

/- The program's Homes returns what the reference's returns, for all arguments. -/
import Derived.Test.YtpmieegflolflaaPFnExactHomesx
import Derived.Test.YtpmieegflolflaaMBase
import Derived.Test.YtpmieegflolflaaMGrid
import Derived.Test.YtpmieegflolflaaMLists
import Derived.Test.YtpmieegflolflaaMSteps
import Derived.Test.YtpmieegflolflaaMScan
import Derived.Test.YtpmieegflolflaaMMarks
import Derived.Test.YtpmieegflolflaaQFnExactHomesAll0
import Derived.Test.YtpmieegflolflaaQFnExactHomesAll1
import Derived.Test.YtpmieegflolflaaQFnExactHomesAll2
namespace Go.Proofs.Ytpmieegflolflaa.Pure
open Go.RowKit Go.Proofs.Ytpmieegflolflaa.PFnExactHomes Go.Proofs.YtpmieegflolflaaW.PrintWords Go.Proofs.YtpmieegflolflaaW.PrintLast Go.Proofs.YtpmieegflolflaaW.PrintMore Go.Proofs.Ytpmieegflolflaa.MBase Go.Proofs.Ytpmieegflolflaa.MGrid Go.Proofs.Ytpmieegflolflaa.MLists Go.Proofs.Ytpmieegflolflaa.MSteps Go.Proofs.Ytpmieegflolflaa.MScan Go.Proofs.Ytpmieegflolflaa.MMarks Go.Proofs.Ytpmieegflolflaa.QFnExactHomes
set_option linter.unusedVariables false
set_option linter.unusedSimpArgs false

theorem FnExactHomes (w h : Int) (c : ByteArray) (_ : (Lit.int .i64 w).wf = true) (_ : (Lit.int .i64 h).wf = true) (hc : c.size ≤ maxLen) : ∃ k, laws_FnExactHomes.f k w h c = some true := by
  rcases szGrid_ev w h c (by unfold maxLen at hc; omega) with ⟨t, ht, hn⟩ | ⟨_, t, ht, hn⟩
  · exact ⟨0, by unfold laws_FnExactHomes.f; rw [ht, Option.bind_some, if_pos hn]⟩
  refine Ev.rounds (Ev.congr (fun k => by unfold laws_FnExactHomes.f laws_toGrid.f; rw [ht, Option.bind_some, if_neg hn, Option.bind_some]) ?_)
  have hfl := freeCells_len w h c
  obtain ⟨xs, hxl, r1, r2⟩ := homes_l0 w h c (freeCells w h c) (by omega) (freeCells w h c).length 0 [] (Nat.zero_add _) (Nat.le_refl _)
  have hs : Ev (fun k => spec_Homes.f k w h c) xs := Ev.bind (sFreeCells w h c) r1
  have hi : Ev (fun k => impl_Homes.f k w h c) xs := Ev.bind (iFreeCells w h c) r2
  have hl : xs.length < 1099511627776 := by omega
  have heq := eqIntS_same xs hl
  obtain ⟨ys, hy, hmark, hheld⟩ := marks_int xs hl 1 (by omega) (by omega)
  have hq : ¬ ((1 : Int) + xs.length < 0) := by omega
  refine Ev.bind hs (Ev.congr (fun k => by rw [Option.bind_some]) (Ev.bind hi (Ev.bind heq ?_)))
  refine Ev.congr (fun k => by rw [if_pos rfl]) (Ev.bind hmark (Ev.bind hheld ?_))
  refine Ev.congr (fun k => by rw [if_neg hq, if_pos rfl, Option.bind_some]) (Ev.bind hi (Ev.bind heq ?_))
  refine Ev.congr (fun k => by rw [if_pos rfl]) (Ev.bind hheld ?_)
  exact Ev.of_eq fun k => by rw [if_neg hq, if_pos rfl]

end Go.Proofs.Ytpmieegflolflaa.Pure

/- The program's PairsOf returns what the reference's returns, for all arguments. -/
import Derived.Test.YtpmieegflolflaaPFnExactPairsOfx
import Derived.Test.YtpmieegflolflaaMBase
import Derived.Test.YtpmieegflolflaaMGrid
import Derived.Test.YtpmieegflolflaaMLists
import Derived.Test.YtpmieegflolflaaMSteps
import Derived.Test.YtpmieegflolflaaMScan
import Derived.Test.YtpmieegflolflaaQFnExactPairsOfAll0
namespace Go.Proofs.Ytpmieegflolflaa.Pure
open Go.RowKit Go.Proofs.Ytpmieegflolflaa.PFnExactPairsOf Go.Proofs.YtpmieegflolflaaW.PrintWords Go.Proofs.YtpmieegflolflaaW.PrintLast Go.Proofs.YtpmieegflolflaaW.PrintMore Go.Proofs.Ytpmieegflolflaa.MBase Go.Proofs.Ytpmieegflolflaa.MGrid Go.Proofs.Ytpmieegflolflaa.MLists Go.Proofs.Ytpmieegflolflaa.MSteps Go.Proofs.Ytpmieegflolflaa.MScan Go.Proofs.Ytpmieegflolflaa.QFnExactPairsOf
set_option linter.unusedVariables false
set_option linter.unusedSimpArgs false

theorem FnExactPairsOf (w h : Int) (c : ByteArray) (_ : (Lit.int .i64 w).wf = true) (_ : (Lit.int .i64 h).wf = true) (hc : c.size ≤ maxLen) : ∃ k, laws_FnExactPairsOf.f k w h c = some true := by
  rcases szGrid_ev w h c (by unfold maxLen at hc; omega) with ⟨t, ht, hn⟩ | ⟨_, t, ht, hn⟩
  · exact ⟨0, by unfold laws_FnExactPairsOf.f; rw [ht, Option.bind_some, if_pos hn]⟩
  refine Ev.rounds (Ev.congr (fun k => by unfold laws_FnExactPairsOf.f laws_toGrid.f; rw [ht, Option.bind_some, if_neg hn, Option.bind_some]) ?_)
  refine Ev.bind (sPairsOf w h c) ?_
  refine Ev.congr (fun k => by rw [Option.bind_some]) (Ev.bind (iPairsOf w h c) ?_)
  exact Ev.of_eq fun k => by rw [if_pos rfl]

end Go.Proofs.Ytpmieegflolflaa.Pure

/- The program's HomeOf returns what the reference's returns, for all arguments. -/
import Derived.Test.YtpmieegflolflaaPFnExactHomeOfx
import Derived.Test.YtpmieegflolflaaMBase
import Derived.Test.YtpmieegflolflaaMGrid
import Derived.Test.YtpmieegflolflaaMLists
import Derived.Test.YtpmieegflolflaaMSteps
import Derived.Test.YtpmieegflolflaaMScan
import Derived.Test.YtpmieegflolflaaQFnExactHomeOfAll0
import Derived.Test.YtpmieegflolflaaQFnExactHomeOfAll1
namespace Go.Proofs.Ytpmieegflolflaa.Pure
open Go.RowKit Go.Proofs.Ytpmieegflolflaa.PFnExactHomeOf Go.Proofs.YtpmieegflolflaaW.PrintWords Go.Proofs.YtpmieegflolflaaW.PrintLast Go.Proofs.YtpmieegflolflaaW.PrintMore Go.Proofs.Ytpmieegflolflaa.MBase Go.Proofs.Ytpmieegflolflaa.MGrid Go.Proofs.Ytpmieegflolflaa.MLists Go.Proofs.Ytpmieegflolflaa.MSteps Go.Proofs.Ytpmieegflolflaa.MScan Go.Proofs.Ytpmieegflolflaa.QFnExactHomeOf
set_option linter.unusedVariables false
set_option linter.unusedSimpArgs false

theorem FnExactHomeOf (w h : Int) (c : ByteArray) (a : Int) (_ : (Lit.int .i64 w).wf = true) (_ : (Lit.int .i64 h).wf = true) (hc : c.size ≤ maxLen) (_ : (Lit.int .i64 a).wf = true) : ∃ k, laws_FnExactHomeOf.f k w h c a = some true := by
  rcases szGrid_ev w h c (by unfold maxLen at hc; omega) with ⟨t, ht, hn⟩ | ⟨_, t, ht, hn⟩
  · exact ⟨0, by unfold laws_FnExactHomeOf.f; rw [ht, Option.bind_some, if_pos hn]⟩
  refine Ev.rounds (Ev.congr (fun k => by unfold laws_FnExactHomeOf.f laws_toGrid.f; rw [ht, Option.bind_some, if_neg hn, Option.bind_some]) ?_)
  obtain ⟨v, h1, hv⟩ := sHomeOf w h c a
  obtain ⟨u, h2, hu⟩ := iHomeOf w h c a
  obtain rfl : u = v := hu.unique hv
  refine Ev.bind h1 (Ev.congr (fun k => by rw [Option.bind_some]) (Ev.bind h2 ?_))
  exact Ev.of_eq fun k => by rw [if_pos rfl]

end Go.Proofs.Ytpmieegflolflaa.Pure

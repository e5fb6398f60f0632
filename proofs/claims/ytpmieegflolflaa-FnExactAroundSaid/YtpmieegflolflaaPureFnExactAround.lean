/- The program's Around returns what the reference's returns, for all arguments. -/
import Derived.Test.YtpmieegflolflaaPFnExactAroundx
import Derived.Test.YtpmieegflolflaaMBase
import Derived.Test.YtpmieegflolflaaMGrid
import Derived.Test.YtpmieegflolflaaMMarks
import Derived.Test.YtpmieegflolflaaQFnExactAroundAll0
namespace Go.Proofs.Ytpmieegflolflaa.Pure
open Go.RowKit Go.Proofs.Ytpmieegflolflaa.PFnExactAround Go.Proofs.YtpmieegflolflaaW.PrintWords Go.Proofs.YtpmieegflolflaaW.PrintLast Go.Proofs.YtpmieegflolflaaW.PrintMore Go.Proofs.Ytpmieegflolflaa.MBase Go.Proofs.Ytpmieegflolflaa.MGrid Go.Proofs.Ytpmieegflolflaa.MMarks Go.Proofs.Ytpmieegflolflaa.QFnExactAround
set_option linter.unusedVariables false
set_option linter.unusedSimpArgs false

theorem FnExactAround (w h : Int) (c : ByteArray) (x : Int) (_ : (Lit.int .i64 w).wf = true) (_ : (Lit.int .i64 h).wf = true) (hc : c.size ≤ maxLen) (hx : (Lit.int .i64 x).wf = true) : ∃ k, laws_FnExactAround.f k w h c x = some true := by
  rcases szGrid_ev w h c (by unfold maxLen at hc; omega) with ⟨t, ht, hn⟩ | ⟨_, t, ht, hn⟩
  · exact ⟨0, by unfold laws_FnExactAround.f; rw [ht, Option.bind_some, if_pos hn]⟩
  refine Ev.rounds (Ev.congr (fun k => by unfold laws_FnExactAround.f laws_toGrid.f; rw [ht, Option.bind_some, if_neg hn, Option.bind_some]) ?_)
  have hs := sAround w h c x 
  have hi := iAround w h c x hx
  have hl : (around w h c x).length < 1099511627776 := by have := around_len w h c x; omega
  generalize around w h c x = xs at hs hi hl
  have heq := eqIntS_same xs hl
  obtain ⟨ys, hy, hmark, hheld⟩ := marks_int xs hl 1 (by omega) (by omega)
  have hq : ¬ ((1 : Int) + xs.length < 0) := by omega
  refine Ev.bind hs (Ev.congr (fun k => by rw [Option.bind_some]) (Ev.bind hi (Ev.bind heq ?_)))
  refine Ev.congr (fun k => by rw [if_pos rfl]) (Ev.bind hmark (Ev.bind hheld ?_))
  refine Ev.congr (fun k => by rw [if_neg hq, if_pos rfl, Option.bind_some]) (Ev.bind hi (Ev.bind heq ?_))
  refine Ev.congr (fun k => by rw [if_pos rfl]) (Ev.bind hheld ?_)
  exact Ev.of_eq fun k => by rw [if_neg hq, if_pos rfl]

end Go.Proofs.Ytpmieegflolflaa.Pure

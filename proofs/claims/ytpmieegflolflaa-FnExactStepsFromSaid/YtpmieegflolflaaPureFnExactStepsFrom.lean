/- The program's StepsFrom returns what the reference's returns, for all arguments. -/
import Derived.Test.YtpmieegflolflaaPFnExactStepsFromx
import Derived.Test.YtpmieegflolflaaMBase
import Derived.Test.YtpmieegflolflaaMGrid
import Derived.Test.YtpmieegflolflaaMLists
import Derived.Test.YtpmieegflolflaaMSteps
import Derived.Test.YtpmieegflolflaaMScan
import Derived.Test.YtpmieegflolflaaMMarks
import Derived.Test.YtpmieegflolflaaQFnExactStepsFromAll0
import Derived.Test.YtpmieegflolflaaQFnExactStepsFromAll1
namespace Go.Proofs.Ytpmieegflolflaa.Pure
open Go.RowKit Go.Proofs.Ytpmieegflolflaa.PFnExactStepsFrom Go.Proofs.YtpmieegflolflaaW.PrintWords Go.Proofs.YtpmieegflolflaaW.PrintLast Go.Proofs.YtpmieegflolflaaW.PrintMore Go.Proofs.Ytpmieegflolflaa.MBase Go.Proofs.Ytpmieegflolflaa.MGrid Go.Proofs.Ytpmieegflolflaa.MLists Go.Proofs.Ytpmieegflolflaa.MSteps Go.Proofs.Ytpmieegflolflaa.MScan Go.Proofs.Ytpmieegflolflaa.MMarks Go.Proofs.Ytpmieegflolflaa.QFnExactStepsFrom
set_option linter.unusedVariables false
set_option linter.unusedSimpArgs false

theorem FnExactStepsFrom (w h : Int) (c : ByteArray) (l : List Int) (_ : (Lit.int .i64 w).wf = true) (_ : (Lit.int .i64 h).wf = true) (hc : c.size ≤ maxLen) (hl : l.length ≤ 9223372036854775807) (_ : ∀ a ∈ l, (Lit.int .i64 a).wf = true) : ∃ k, laws_FnExactStepsFrom.f k w h c l = some true := by
  by_cases gl : (l.length : Int) > 1048576
  · exact ⟨0, by unfold laws_FnExactStepsFrom.f; rw [if_pos gl]⟩
  rcases szGrid_ev w h c (by unfold maxLen at hc; omega) with ⟨t, ht, hn⟩ | ⟨_, t, ht, hn⟩
  · exact ⟨0, by unfold laws_FnExactStepsFrom.f; rw [if_neg gl, ht, Option.bind_some, if_pos hn]⟩
  refine Ev.rounds (Ev.congr (fun k => by unfold laws_FnExactStepsFrom.f laws_toGrid.f; rw [if_neg gl, ht, Option.bind_some, if_neg hn, Option.bind_some]) ?_)
  have hl2 : l.length ≤ 1048576 := by omega
  obtain ⟨xs, hs, hsA⟩ := sStepsFrom w h c l hl2
  obtain ⟨ys, hi, hiA⟩ := iStepsFrom w h c l hl2
  obtain rfl : ys = xs := hiA.unique hsA
  have hlen : ys.length < 1099511627776 := by
    rcases hsA with ⟨g, _, lab⟩ | ⟨_, e⟩
    · have := (gridOk_size g).2; rw [lab.len]; omega
    · rw [e]; simp
  clear hsA hiA
  have heq := eqIntS_same ys hlen
  have heql := eqIntS_same l (by omega)
  have hto := toIntS_ev l hl2
  obtain ⟨zs, hz, hmark, hheld⟩ := marks_int ys hlen 1 (by omega) (by omega)
  obtain ⟨us, hu, hmarkl, _⟩ := marks_int l (by omega) 1 (by omega) (by omega)
  have hq : ¬ ((1 : Int) + ys.length < 0) := by omega
  have hql : ¬ ((1 : Int) + l.length < 0) := by omega
  refine Ev.bind hto (Ev.bind hs (Ev.bind hto ?_))
  refine Ev.congr (fun k => by rw [Option.bind_some]) (Ev.bind hi (Ev.bind heq ?_))
  refine Ev.congr (fun k => by rw [if_pos rfl]) (Ev.bind hto (Ev.bind heql ?_))
  refine Ev.congr (fun k => by rw [if_pos rfl]) (Ev.bind hmarkl ?_)
  refine Ev.congr (fun k => by rw [if_neg hql]) (Ev.bind heq ?_)
  refine Ev.step (fun k => by rw [laws_FnExactStepsFrom.j0, if_neg (by simp)]) (Ev.bind hmark (Ev.bind hheld ?_))
  refine Ev.congr (fun k => by rw [if_neg hq, if_pos rfl]; unfold laws_toGrid.f; rw [Option.bind_some]) (Ev.bind hto (Ev.bind hi (Ev.bind heq ?_)))
  refine Ev.congr (fun k => by rw [if_pos rfl]) (Ev.bind hheld ?_)
  exact Ev.of_eq fun k => by rw [if_neg hq, if_pos rfl]

end Go.Proofs.Ytpmieegflolflaa.Pure

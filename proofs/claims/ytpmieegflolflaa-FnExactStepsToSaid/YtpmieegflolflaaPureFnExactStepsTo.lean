/- The program's StepsTo returns what the reference's returns, for all arguments. -/
import Derived.Test.YtpmieegflolflaaPFnExactStepsTox
import Derived.Test.YtpmieegflolflaaMBase
import Derived.Test.YtpmieegflolflaaMGrid
import Derived.Test.YtpmieegflolflaaMLists
import Derived.Test.YtpmieegflolflaaMSteps
import Derived.Test.YtpmieegflolflaaMScan
import Derived.Test.YtpmieegflolflaaQFnExactStepsToAll0
import Derived.Test.YtpmieegflolflaaQFnExactStepsToAll1
namespace Go.Proofs.Ytpmieegflolflaa.Pure
open Go.RowKit Go.Proofs.Ytpmieegflolflaa.PFnExactStepsTo Go.Proofs.YtpmieegflolflaaW.PrintWords Go.Proofs.YtpmieegflolflaaW.PrintLast Go.Proofs.YtpmieegflolflaaW.PrintMore Go.Proofs.Ytpmieegflolflaa.MBase Go.Proofs.Ytpmieegflolflaa.MGrid Go.Proofs.Ytpmieegflolflaa.MLists Go.Proofs.Ytpmieegflolflaa.MSteps Go.Proofs.Ytpmieegflolflaa.MScan Go.Proofs.Ytpmieegflolflaa.QFnExactStepsTo
set_option linter.unusedVariables false
set_option linter.unusedSimpArgs false

theorem FnExactStepsTo (w h : Int) (c : ByteArray) (a b : Int) (_ : (Lit.int .i64 w).wf = true) (_ : (Lit.int .i64 h).wf = true) (hc : c.size ≤ maxLen) (_ : (Lit.int .i64 a).wf = true) (_ : (Lit.int .i64 b).wf = true) : ∃ k, laws_FnExactStepsTo.f k w h c a b = some true := by
  rcases szGrid_ev w h c (by unfold maxLen at hc; omega) with ⟨t, ht, hn⟩ | ⟨_, t, ht, hn⟩
  · exact ⟨0, by unfold laws_FnExactStepsTo.f; rw [ht, Option.bind_some, if_pos hn]⟩
  refine Ev.rounds (Ev.congr (fun k => by unfold laws_FnExactStepsTo.f laws_toGrid.f; rw [ht, Option.bind_some, if_neg hn, Option.bind_some]) ?_)
  obtain ⟨xs, hs, hsA⟩ := sStepsFrom w h c [a] (by simp)
  obtain ⟨ys, hi, hiA⟩ := iStepsFrom w h c [a] (by simp)
  obtain rfl : ys = xs := hiA.unique hsA
  have both : ∃ v, Ev (fun k => spec_StepsTo.f k w h c a b) v ∧ Ev (fun k => impl_StepsTo.f k w h c a b) v := by
    have fa := sFreeAt w h c a
    have fb := sFreeAt w h c b
    have ga := iFreeAt w h c a
    have gb := iFreeAt w h c b
    cases ha : freeAt w h c a with
    | false =>
      rw [ha] at fa ga
      exact ⟨-1, Ev.bind fa (Ev.of_eq fun k => by rw [if_neg (by simp)]), Ev.bind ga (Ev.of_eq fun k => by rw [if_neg (by simp)])⟩
    | true =>
      rw [ha] at fa ga
      cases hb : freeAt w h c b with
      | false =>
        rw [hb] at fb gb
        exact ⟨-1, Ev.bind fa (Ev.congr (fun k => by rw [if_pos rfl]) (Ev.bind fb (Ev.of_eq fun k => by rw [if_neg (by simp)]))), Ev.bind ga (Ev.congr (fun k => by rw [if_pos rfl]) (Ev.bind gb (Ev.of_eq fun k => by rw [if_neg (by simp)])))⟩
      | true =>
        rw [hb] at fb gb
        have fA := freeAt_iff.mp ha
        have fB := freeAt_iff.mp hb
        have hlen : ys.length = c.size := by
          rcases hsA with ⟨_, _, lab⟩ | ⟨e, _⟩
          · exact lab.len
          · exact absurd ⟨fA.1, fun z hz => by rw [List.mem_singleton.1 hz]; exact ha⟩ e
        refine ⟨rd ys b, Ev.bind fa (Ev.congr (fun k => by rw [if_pos rfl]) (Ev.bind fb (Ev.congr (fun k => by rw [if_pos rfl]) (Ev.bind hs (Ev.of_eq fun k => ?_))))), Ev.bind ga (Ev.congr (fun k => by rw [if_pos rfl]) (Ev.bind gb (Ev.congr (fun k => by rw [if_pos rfl]) (Ev.bind hi (Ev.of_eq fun k => ?_)))))⟩
        · rw [if_pos fB.2.1, if_pos (by rw [hlen]; exact fB.2.2.1)]
        · rw [if_pos fB.2.1, if_pos (by rw [hlen]; exact fB.2.2.1)]
  obtain ⟨v, h1, h2⟩ := both
  refine Ev.bind h1 (Ev.congr (fun k => by rw [Option.bind_some]) (Ev.bind h2 ?_))
  exact Ev.of_eq fun k => by rw [if_pos rfl]

end Go.Proofs.Ytpmieegflolflaa.Pure

/- The program's CountIn returns what the reference's returns, for all arguments. -/
import Derived.Test.YtabepbkolmimlaaPFnExactCountInx
import Derived.Test.YtabepbkolmimlaaMBase
import Derived.Test.YtabepbkolmimlaaMGrid
import Derived.Test.YtabepbkolmimlaaMLists
import Derived.Test.YtabepbkolmimlaaMSteps
import Derived.Test.YtabepbkolmimlaaMScan
import Derived.Test.YtabepbkolmimlaaQFnExactCountInAll0
import Derived.Test.YtabepbkolmimlaaQFnExactCountInAll1
namespace Go.Proofs.Ytabepbkolmimlaa.Pure
open Go.RowKit Go.Proofs.Ytabepbkolmimlaa.PFnExactCountIn Go.Proofs.YtabepbkolmimlaaW.PrintWords Go.Proofs.YtabepbkolmimlaaW.PrintLast Go.Proofs.YtabepbkolmimlaaW.PrintMore Go.Proofs.Ytabepbkolmimlaa.MBase Go.Proofs.Ytabepbkolmimlaa.MGrid Go.Proofs.Ytabepbkolmimlaa.MLists Go.Proofs.Ytabepbkolmimlaa.MSteps Go.Proofs.Ytabepbkolmimlaa.MScan Go.Proofs.Ytabepbkolmimlaa.QFnExactCountIn
set_option linter.unusedVariables false
set_option linter.unusedSimpArgs false

theorem FnExactCountIn (w h : Int) (c : ByteArray) (v : Int) (l : List Int) (_ : (Lit.int .i64 w).wf = true) (_ : (Lit.int .i64 h).wf = true) (hc : c.size ≤ maxLen) (_ : (Lit.int .i64 v).wf = true) (_ : l.length ≤ maxLen) (_ : ∀ a ∈ l, (Lit.int .i64 a).wf = true) : ∃ k, laws_FnExactCountIn.f k w h c v l = some true := by
  by_cases hbig : (l.length : Int) > 1048576
  · exact ⟨0, by unfold laws_FnExactCountIn.f; rw [if_pos hbig]⟩
  rcases szGrid_ev w h c (by unfold maxLen at hc; omega) with ⟨t, ht, hn⟩ | ⟨_, t, ht, hn⟩
  · exact ⟨0, by unfold laws_FnExactCountIn.f; rw [if_neg hbig, ht, Option.bind_some, if_pos hn]⟩
  refine Ev.rounds (Ev.congr (fun k => by unfold laws_FnExactCountIn.f laws_toGrid.f; rw [if_neg hbig, ht, Option.bind_some, if_neg hn, Option.bind_some]) ?_)
  have hl : l.length ≤ 1048576 := by omega
  have hto := toIntS_ev l hl
  obtain ⟨n, hs, hsA⟩ := sCountIn w h c v l hl
  obtain ⟨m, hi, hiA⟩ := iCountIn w h c v l hl
  obtain rfl : n = m := hsA.unique hiA
  have heq := eqIntS_same l (by omega)
  refine Ev.bind hto (Ev.bind hs (Ev.bind hto (Ev.congr (fun k => by rw [Option.bind_some]) (Ev.bind hi (Ev.congr (fun k => by rw [if_pos rfl]) (Ev.bind hto (Ev.bind heq ?_)))))))
  exact Ev.of_eq fun k => by rw [if_pos rfl]

end Go.Proofs.Ytabepbkolmimlaa.Pure

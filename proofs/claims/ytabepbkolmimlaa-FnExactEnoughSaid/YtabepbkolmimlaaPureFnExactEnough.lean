/- The program's Enough returns what the reference's returns, for all arguments. -/
import Derived.Test.YtabepbkolmimlaaPFnExactEnoughx
import Derived.Test.YtabepbkolmimlaaMBase
import Derived.Test.YtabepbkolmimlaaMGrid
import Derived.Test.YtabepbkolmimlaaMLists
import Derived.Test.YtabepbkolmimlaaMSteps
import Derived.Test.YtabepbkolmimlaaMScan
import Derived.Test.YtabepbkolmimlaaQFnExactEnoughAll0
import Derived.Test.YtabepbkolmimlaaQFnExactEnoughAll1
import Derived.Test.YtabepbkolmimlaaQFnExactEnoughAll2
namespace Go.Proofs.Ytabepbkolmimlaa.Pure
open Go.RowKit Go.Proofs.Ytabepbkolmimlaa.PFnExactEnough Go.Proofs.YtabepbkolmimlaaW.PrintWords Go.Proofs.YtabepbkolmimlaaW.PrintLast Go.Proofs.YtabepbkolmimlaaW.PrintMore Go.Proofs.Ytabepbkolmimlaa.MBase Go.Proofs.Ytabepbkolmimlaa.MGrid Go.Proofs.Ytabepbkolmimlaa.MLists Go.Proofs.Ytabepbkolmimlaa.MSteps Go.Proofs.Ytabepbkolmimlaa.MScan Go.Proofs.Ytabepbkolmimlaa.QFnExactEnough
set_option linter.unusedVariables false
set_option linter.unusedSimpArgs false

theorem FnExactEnough (w h : Int) (c : ByteArray) (s d : List Int) (_ : (Lit.int .i64 w).wf = true) (_ : (Lit.int .i64 h).wf = true) (hc : c.size ≤ maxLen) (_ : s.length ≤ maxLen) (_ : ∀ a ∈ s, (Lit.int .i64 a).wf = true) (_ : d.length ≤ maxLen) (_ : ∀ a ∈ d, (Lit.int .i64 a).wf = true) : ∃ k, laws_FnExactEnough.f k w h c s d = some true := by
  by_cases hbig : (s.length : Int) > 1048576
  · exact ⟨0, by unfold laws_FnExactEnough.f; rw [if_pos hbig]⟩
  by_cases hbig2 : (d.length : Int) > 1048576
  · exact ⟨0, by unfold laws_FnExactEnough.f; rw [if_neg hbig, if_pos hbig2]⟩
  rcases szGrid_ev w h c (by unfold maxLen at hc; omega) with ⟨t, ht, hn⟩ | ⟨_, t, ht, hn⟩
  · exact ⟨0, by unfold laws_FnExactEnough.f; rw [if_neg hbig, if_neg hbig2, ht, Option.bind_some, if_pos hn]⟩
  refine Ev.rounds (Ev.congr (fun k => by unfold laws_FnExactEnough.f laws_toGrid.f; rw [if_neg hbig, if_neg hbig2, ht, Option.bind_some, if_neg hn, Option.bind_some]) ?_)
  have hs : s.length ≤ 1048576 := by omega
  have hd : d.length ≤ 1048576 := by omega
  have hts := toIntS_ev s hs
  have htd := toIntS_ev d hd
  obtain ⟨b, b1, b2⟩ := both_enough w h c s d hs hd
  have eqs := eqIntS_same s (by omega)
  have eqd := eqIntS_same d (by omega)
  refine Ev.bind hts ?_
  refine Ev.bind htd ?_
  refine Ev.bind b1 ?_
  refine Ev.bind hts ?_
  refine Ev.bind htd ?_
  refine Ev.congr (fun k => by rw [Option.bind_some]) (Ev.bind b2 ?_)
  refine Ev.congr (fun k => by rw [if_neg (by simp)]) (Ev.bind hts ?_)
  refine Ev.bind eqs ?_
  refine Ev.congr (fun k => by rw [if_pos rfl]) (Ev.bind htd ?_)
  refine Ev.bind eqd ?_
  exact Ev.of_eq fun k => by rw [if_pos rfl]

end Go.Proofs.Ytabepbkolmimlaa.Pure

/- The program's ParksIn returns what the reference's returns, for all arguments. -/
import Derived.Test.YtkaffmlppfppeaaPFnExactParksInx
import Derived.Test.YtkaffmlppfppeaaMBase
import Derived.Test.YtkaffmlppfppeaaMGrid
import Derived.Test.YtkaffmlppfppeaaMLists
import Derived.Test.YtkaffmlppfppeaaMMarks
import Derived.Test.YtkaffmlppfppeaaQFnExactParksInAll0
namespace Go.Proofs.Ytkaffmlppfppeaa.Pure
open Go.RowKit Go.Proofs.Ytkaffmlppfppeaa.PFnExactParksIn Go.Proofs.YtkaffmlppfppeaaW.PrintWords Go.Proofs.YtkaffmlppfppeaaW.PrintLast Go.Proofs.YtkaffmlppfppeaaW.PrintMore Go.Proofs.Ytkaffmlppfppeaa.MBase Go.Proofs.Ytkaffmlppfppeaa.MGrid Go.Proofs.Ytkaffmlppfppeaa.MLists Go.Proofs.Ytkaffmlppfppeaa.MMarks Go.Proofs.Ytkaffmlppfppeaa.QFnExactParksIn
set_option linter.unusedVariables false
set_option linter.unusedSimpArgs false

theorem FnExactParksIn (w h : Int) (c : ByteArray) (z : Int) (_ : (Lit.int .i64 w).wf = true) (_ : (Lit.int .i64 h).wf = true) (hc : c.size ≤ maxLen) (hz : (Lit.int .i64 z).wf = true) : ∃ k, laws_FnExactParksIn.f k w h c z = some true := by
  rcases szGrid_ev w h c (by unfold maxLen at hc; omega) with ⟨t, ht, hn⟩ | ⟨_, t, ht, hn⟩
  · exact ⟨0, by unfold laws_FnExactParksIn.f; rw [ht, Option.bind_some, if_pos hn]⟩
  refine Ev.rounds (Ev.congr (fun k => by unfold laws_FnExactParksIn.f laws_toGrid.f; rw [ht, Option.bind_some, if_neg hn, Option.bind_some]) ?_)
  have hs := sParksIn w h c z 
  have hi := iParksIn w h c z 
  have hl : (parksIn w h c z).length < 1099511627776 := by have := parksIn_len w h c z; omega
  generalize parksIn w h c z = xs at hs hi hl
  have heq := eqIntS_same xs hl
  obtain ⟨ys, hy, hmark, hheld⟩ := marks_int xs hl 1 (by omega) (by omega)
  have hq : ¬ ((1 : Int) + xs.length < 0) := by omega
  refine Ev.bind hs (Ev.congr (fun k => by rw [Option.bind_some]) (Ev.bind hi (Ev.bind heq ?_)))
  refine Ev.congr (fun k => by rw [if_pos rfl]) (Ev.bind hmark (Ev.bind hheld ?_))
  refine Ev.congr (fun k => by rw [if_neg hq, if_pos rfl, Option.bind_some]) (Ev.bind hi (Ev.bind heq ?_))
  refine Ev.congr (fun k => by rw [if_pos rfl]) (Ev.bind hheld ?_)
  exact Ev.of_eq fun k => by rw [if_neg hq, if_pos rfl]

end Go.Proofs.Ytkaffmlppfppeaa.Pure

/- The program's GridText returns what the reference's returns, for all arguments. -/
import Derived.Test.YtkaffmlppfppeaaDoorPFnExactGridTextx
import Derived.Test.YtkaffmlppfppeaaDoorMBase
import Derived.Test.YtkaffmlppfppeaaDoorMGrid
import Derived.Test.YtkaffmlppfppeaaDoorMLists
import Derived.Test.YtkaffmlppfppeaaDoorQFnExactGridTextAll0
namespace Go.Proofs.YtkaffmlppfppeaaDoor.Pure
open Go.RowKit Go.Proofs.YtkaffmlppfppeaaDoor.PFnExactGridText Go.Proofs.YtkaffmlppfppeaaDoorW.PrintWords Go.Proofs.YtkaffmlppfppeaaDoorW.PrintLast Go.Proofs.YtkaffmlppfppeaaDoorW.PrintMore Go.Proofs.YtkaffmlppfppeaaDoor.MBase Go.Proofs.YtkaffmlppfppeaaDoor.MGrid Go.Proofs.YtkaffmlppfppeaaDoor.MLists Go.Proofs.YtkaffmlppfppeaaDoor.QFnExactGridText
set_option linter.unusedVariables false
set_option linter.unusedSimpArgs false

theorem FnExactGridText (w h : Int) (c : ByteArray) (_ : (Lit.int .i64 w).wf = true) (_ : (Lit.int .i64 h).wf = true) (hc : c.size ≤ maxLen) : ∃ k, laws_FnExactGridText.f k w h c = some true := by
  rcases szGrid_ev w h c (by unfold maxLen at hc; omega) with ⟨t, ht, hn⟩ | ⟨_, t, ht, hn⟩
  · exact ⟨0, by unfold laws_FnExactGridText.f; rw [ht, Option.bind_some, if_pos hn]⟩
  refine Ev.rounds (Ev.congr (fun k => by unfold laws_FnExactGridText.f laws_toGrid.f; rw [ht, Option.bind_some, if_neg hn, Option.bind_some]) ?_)
  have hs := sText w h c
  have hi := iText w h c
  generalize (if gridOk w h c = true then (gridT w h c, true) else ((⟨#[]⟩ : ByteArray), false)) = r at hs hi
  refine Ev.bind hs (Ev.congr (fun k => by rw [Option.bind_some]) (Ev.bind hi ?_))
  exact Ev.of_eq fun k => by rw [if_pos rfl, bne_self_eq_false, if_neg (by simp)]

end Go.Proofs.YtkaffmlppfppeaaDoor.Pure

/- The program's ReadGrid returns what the reference's returns, for all arguments. -/
import Derived.Test.YtkaffmlppfppeaaDoorPFnExactReadGridx
import Derived.Test.YtkaffmlppfppeaaDoorMBase
import Derived.Test.YtkaffmlppfppeaaDoorMGrid
import Derived.Test.YtkaffmlppfppeaaDoorMLists
import Derived.Test.YtkaffmlppfppeaaDoorQFnExactReadGridAll0
namespace Go.Proofs.YtkaffmlppfppeaaDoor.Pure
open Go.RowKit Go.Proofs.YtkaffmlppfppeaaDoor.PFnExactReadGrid Go.Proofs.YtkaffmlppfppeaaDoorW.PrintWords Go.Proofs.YtkaffmlppfppeaaDoorW.PrintLast Go.Proofs.YtkaffmlppfppeaaDoorW.PrintMore Go.Proofs.YtkaffmlppfppeaaDoor.MBase Go.Proofs.YtkaffmlppfppeaaDoor.MGrid Go.Proofs.YtkaffmlppfppeaaDoor.MLists Go.Proofs.YtkaffmlppfppeaaDoor.QFnExactReadGrid
set_option linter.unusedVariables false
set_option linter.unusedSimpArgs false

theorem FnExactReadGrid : laws_FnExactReadGrid.Pure := by
  intro t _
  by_cases hbig : (t.size : Int) > 1048576
  · exact ⟨0, by unfold laws_FnExactReadGrid.f; rw [if_pos hbig]⟩
  obtain ⟨r, hs, ps⟩ := sReadGrid t
  obtain ⟨r', hi, pi⟩ := iReadGrid t
  obtain rfl := ps.unique pi
  refine Ev.rounds (Ev.congr (fun k => by unfold laws_FnExactReadGrid.f; rw [if_neg hbig]) (Ev.bind hs ?_))
  refine Ev.bind hi ?_
  exact Ev.of_eq fun k => by unfold laws_eqGrid.f; rw [if_pos rfl, if_pos rfl, if_pos rfl, Option.bind_some, if_pos rfl, bne_self_eq_false, if_neg (by simp)]

end Go.Proofs.YtkaffmlppfppeaaDoor.Pure

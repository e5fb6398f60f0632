/- The program's Walled returns what the reference's returns, for all arguments. -/
import Derived.Test.YtkaffmlppfppeaaPFnExactWalledx
import Derived.Test.YtkaffmlppfppeaaMBase
import Derived.Test.YtkaffmlppfppeaaMGrid
import Derived.Test.YtkaffmlppfppeaaMLists
import Derived.Test.YtkaffmlppfppeaaQFnExactWalledAll0
namespace Go.Proofs.Ytkaffmlppfppeaa.Pure
open Go.RowKit Go.Proofs.Ytkaffmlppfppeaa.PFnExactWalled Go.Proofs.YtkaffmlppfppeaaW.PrintWords Go.Proofs.YtkaffmlppfppeaaW.PrintLast Go.Proofs.YtkaffmlppfppeaaW.PrintMore Go.Proofs.Ytkaffmlppfppeaa.MBase Go.Proofs.Ytkaffmlppfppeaa.MGrid Go.Proofs.Ytkaffmlppfppeaa.MLists Go.Proofs.Ytkaffmlppfppeaa.QFnExactWalled
set_option linter.unusedVariables false
set_option linter.unusedSimpArgs false

theorem FnExactWalled (w h : Int) (c : ByteArray) (l : List Int) (_ : (Lit.int .i64 w).wf = true) (_ : (Lit.int .i64 h).wf = true) (hc : c.size ≤ maxLen) (_ : l.length ≤ maxLen) (_ : ∀ x ∈ l, (Lit.int .i64 x).wf = true) : ∃ k, laws_FnExactWalled.f k w h c l = some true := by
  by_cases hbig : (l.length : Int) > 1048576
  · exact ⟨0, by unfold laws_FnExactWalled.f; rw [if_pos hbig]⟩
  have hl : l.length ≤ 1048576 := by omega
  rcases szGrid_ev w h c (by unfold maxLen at hc; omega) with ⟨t, ht, hn⟩ | ⟨_, t, ht, hn⟩
  · exact ⟨0, by unfold laws_FnExactWalled.f; rw [if_neg hbig, ht, Option.bind_some, if_pos hn]⟩
  refine Ev.rounds (Ev.congr (fun k => by unfold laws_FnExactWalled.f laws_toGrid.f; rw [if_neg hbig, ht, Option.bind_some, if_neg hn, Option.bind_some]) ?_)
  have hto := toIntS_ev l hl
  have heq := eqIntS_same l (by omega)
  obtain ⟨r, hs, hi⟩ : ∃ r, Ev (fun k => spec_Walled.f k w h c l) r ∧ Ev (fun k => impl_Walled.f k w h c l) r := by
    rcases sWalled w h c l hl with ⟨g, hs⟩ | ⟨g, s, hs, ps⟩
    · rcases iWalled w h c l hl with ⟨_, hi⟩ | ⟨g', _⟩
      · exact ⟨_, hs, hi⟩
      · rw [g] at g'; cases g'
    · rcases iWalled w h c l hl with ⟨g', _⟩ | ⟨_, s', hi, pi⟩
      · rw [g] at g'; cases g'
      · obtain rfl := ps.unique pi (fun _ _ => rfl)
        exact ⟨_, hs, hi⟩
  refine Ev.bind hto ?_
  refine Ev.bind hs ?_
  refine Ev.bind hto ?_
  refine Ev.congr (fun k => by rw [Option.bind_some]) (Ev.bind hi ?_)
  refine Ev.congr (fun k => by unfold laws_eqGrid.f; rw [if_pos rfl, if_pos rfl, if_pos rfl, Option.bind_some, if_pos rfl]) (Ev.bind hto ?_)
  refine Ev.bind heq ?_
  exact Ev.of_eq fun k => by rw [if_pos rfl]

end Go.Proofs.Ytkaffmlppfppeaa.Pure

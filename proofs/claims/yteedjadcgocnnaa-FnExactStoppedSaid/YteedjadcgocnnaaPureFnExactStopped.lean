/- The program's Stopped returns what the reference's returns, for all arguments. -/
import Derived.Test.YteedjadcgocnnaaPFnExactStoppedx
import Derived.Test.YteedjadcgocnnaaMBase
import Derived.Test.YteedjadcgocnnaaMLists
import Derived.Test.YteedjadcgocnnaaMNet
import Derived.Test.YteedjadcgocnnaaQFnExactStoppedAll0
namespace Go.Proofs.Yteedjadcgocnnaa.Pure
open Go.RowKit Go.Proofs.Yteedjadcgocnnaa.PFnExactStopped Go.Proofs.YteedjadcgocnnaaW.PrintWords Go.Proofs.YteedjadcgocnnaaW.PrintLast Go.Proofs.YteedjadcgocnnaaW.PrintMore Go.Proofs.Yteedjadcgocnnaa.MBase Go.Proofs.Yteedjadcgocnnaa.MLists Go.Proofs.Yteedjadcgocnnaa.MNet Go.Proofs.Yteedjadcgocnnaa.QFnExactStopped
set_option linter.unusedVariables false
set_option linter.unusedSimpArgs false

theorem FnExactStopped (n : Int) (l : List S77) (f : List Int) (s : List Bool) (_ : (Lit.int .i64 n).wf = true) (hl : l.length ≤ 9223372036854775807) (_ : ∀ a ∈ l, (Lit.int .i64 a.f0).wf = true ∧ (Lit.int .i64 a.f1).wf = true ∧ (Lit.int .i64 a.f2).wf = true ∧ (Lit.int .i64 a.f3).wf = true) (hf : f.length ≤ 9223372036854775807) (_ : ∀ a ∈ f, (Lit.int .i64 a).wf = true) (hs : s.length ≤ 9223372036854775807) (_ : ∀ a ∈ s, True) : ∃ k, laws_FnExactStopped.f k n l f s = some true := by
  by_cases gf : (f.length : Int) > 1048576
  · exact ⟨0, by unfold laws_FnExactStopped.f; rw [if_pos gf]⟩
  by_cases gs : (s.length : Int) > 1048576
  · exact ⟨0, by unfold laws_FnExactStopped.f; rw [if_neg gf, if_pos gs]⟩
  rcases szNet_ev n l hl with ⟨t, ht, hn⟩ | ⟨hl2, t, ht, hn⟩
  · exact ⟨0, by unfold laws_FnExactStopped.f; rw [if_neg gf, if_neg gs, ht, Option.bind_some, if_pos hn]⟩
  refine Ev.rounds (Ev.congr (fun k => by unfold laws_FnExactStopped.f; rw [if_neg gf, if_neg gs, ht, Option.bind_some, if_neg hn]) ?_)
  have hm : (l.map conv).length ≤ 1048576 := by rw [List.length_map]; exact hl2
  have hto := toNet_ev n l hl2
  have tf := toIntS_ev f (by omega)
  have ts := toBoolS_ev s (by omega)
  refine Ev.bind hto (Ev.bind tf (Ev.bind ts (Ev.bind (sStopped n _ f s hm) (Ev.bind hto (Ev.bind tf (Ev.bind ts (Ev.bind (iStopped n _ f s hm) ?_)))))))
  refine Ev.congr (fun k => by rw [if_neg (by simp)]) (Ev.bind hto (Ev.bind (eqNet_same n _ hm) ?_))
  refine Ev.congr (fun k => by rw [if_pos rfl]) (Ev.bind tf (Ev.bind (eqIntS_same f (by omega)) ?_))
  refine Ev.congr (fun k => by rw [if_pos rfl]) (Ev.bind ts (Ev.bind (eqBoolS_same s (by omega)) ?_))
  exact Ev.of_eq fun k => by rw [if_pos rfl]

end Go.Proofs.Yteedjadcgocnnaa.Pure

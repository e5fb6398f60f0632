/- The program's Brought returns what the reference's returns, for all arguments. -/
import Derived.Test.YtkmbefadmoidbaaPFnExactBroughtx
import Derived.Test.YtkmbefadmoidbaaMBase
namespace Go.Proofs.Ytkmbefadmoidbaa.Pure
open Go.RowKit Go.Proofs.Ytkmbefadmoidbaa.PFnExactBrought Go.Proofs.YtkmbefadmoidbaaW.PrintWords Go.Proofs.YtkmbefadmoidbaaW.PrintLast Go.Proofs.YtkmbefadmoidbaaW.PrintMore Go.Proofs.Ytkmbefadmoidbaa.MBase
theorem FnExactBrought : laws_FnExactBrought.Pure := by
  intro n a b _ _ _
  refine ⟨1, ?_⟩
  unfold laws_FnExactBrought.f spec_Brought.f impl_Brought.f
  simp only [spec_Brought.j0, Option.bind_some]
  by_cases h1 : b < a
  · rw [if_pos h1]
    simp only [if_true, Option.bind_some]
    rw [if_pos]
    unfold mx mn
    split <;> split <;> omega
  · rw [if_neg h1]
    by_cases h2 : n < a
    · simp only [h2, decide_true, if_true, Option.bind_some]
      rw [if_pos]
      unfold mx mn
      split <;> split <;> omega
    · simp only [h2, decide_false, Bool.false_eq_true, if_false]
      by_cases h3 : n > b
      · rw [if_pos h3]
        simp only [Option.bind_some]
        rw [if_pos]
        unfold mx mn
        split <;> split <;> omega
      · rw [if_neg h3]
        simp only [Option.bind_some]
        rw [if_pos]
        unfold mx mn
        split <;> split <;> omega
end Go.Proofs.Ytkmbefadmoidbaa.Pure

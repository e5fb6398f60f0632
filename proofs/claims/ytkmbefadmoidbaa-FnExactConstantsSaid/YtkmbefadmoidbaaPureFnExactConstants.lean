/- The program's constants have the values that the document gives them. -/
import Derived.Test.YtkmbefadmoidbaaPFnExactConstantsx
namespace Go.Proofs.Ytkmbefadmoidbaa.Pure
open Go.RowKit Go.Proofs.Ytkmbefadmoidbaa.PFnExactConstants Go.Proofs.YtkmbefadmoidbaaW.PrintWords Go.Proofs.YtkmbefadmoidbaaW.PrintLast
theorem FnExactConstants : laws_FnExactConstants.Pure := rfl
end Go.Proofs.Ytkmbefadmoidbaa.Pure

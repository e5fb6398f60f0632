-- Made by the session's wip/pp.py, a changed call of the kit's printer; Lean checks it.
import Derived.Test.YtkmbefadmoidbaaPFnExactFreeCellsx0
import Derived.Test.YtkmbefadmoidbaaPFnExactFreeCellsx1
import Derived.Test.YtkmbefadmoidbaaPFnExactFreeCellsx2
import Derived.Test.YtkmbefadmoidbaaPFnExactFreeCellsx3
namespace Go.Proofs.Ytkmbefadmoidbaa.PFnExactFreeCells
open Go.RowKit Go.Proofs.YtkmbefadmoidbaaW.PrintWords Go.Proofs.YtkmbefadmoidbaaW.PrintLast Go.Proofs.YtkmbefadmoidbaaW.PrintMore
attribute [local go_sem] max2_int min2_int max_two min_two max_three min_three max_four min_four   -- for this text's walks alone
set_option linter.unusedVariables false
set_option linter.unusedSimpArgs false

end Go.Proofs.Ytkmbefadmoidbaa.PFnExactFreeCells

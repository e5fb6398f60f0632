-- Made by the session's wip/pp.py, a changed call of the kit's printer; Lean checks it.
import Derived.Test.YtkaffmlppfppeaaPFnExactWalledx0
import Derived.Test.YtkaffmlppfppeaaPFnExactWalledx1
import Derived.Test.YtkaffmlppfppeaaPFnExactWalledx2
import Derived.Test.YtkaffmlppfppeaaPFnExactWalledx3
namespace Go.Proofs.Ytkaffmlppfppeaa.PFnExactWalled
open Go.RowKit Go.Proofs.YtkaffmlppfppeaaW.PrintWords Go.Proofs.YtkaffmlppfppeaaW.PrintLast Go.Proofs.YtkaffmlppfppeaaW.PrintMore
attribute [local go_sem] max2_int min2_int max_two min_two max_three min_three max_four min_four   -- for this text's walks alone
set_option linter.unusedVariables false
set_option linter.unusedSimpArgs false

end Go.Proofs.Ytkaffmlppfppeaa.PFnExactWalled

-- Made by the session's wip/pp.py, a changed call of the kit's printer; Lean checks it.
import Derived.Test.YteedjadcgocnnaaPFnExactFlowCostx0
import Derived.Test.YteedjadcgocnnaaPFnExactFlowCostx1
import Derived.Test.YteedjadcgocnnaaPFnExactFlowCostx2
import Derived.Test.YteedjadcgocnnaaPFnExactFlowCostx3
import Derived.Test.YteedjadcgocnnaaPFnExactFlowCostx4
import Derived.Test.YteedjadcgocnnaaPFnExactFlowCostx5
import Derived.Test.YteedjadcgocnnaaPFnExactFlowCostx6
import Derived.Test.YteedjadcgocnnaaPFnExactFlowCostx7
import Derived.Test.YteedjadcgocnnaaPFnExactFlowCostx8
namespace Go.Proofs.Yteedjadcgocnnaa.PFnExactFlowCost
open Go.RowKit Go.Proofs.YteedjadcgocnnaaW.PrintWords Go.Proofs.YteedjadcgocnnaaW.PrintLast Go.Proofs.YteedjadcgocnnaaW.PrintMore
attribute [local go_sem] max2_int min2_int max_two min_two max_three min_three max_four min_four   -- for this text's walks alone
set_option linter.unusedVariables false
set_option linter.unusedSimpArgs false

end Go.Proofs.Yteedjadcgocnnaa.PFnExactFlowCost

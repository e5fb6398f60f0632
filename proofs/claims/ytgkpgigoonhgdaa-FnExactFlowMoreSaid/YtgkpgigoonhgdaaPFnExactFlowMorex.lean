-- Made by the session's wip/pp.py, a changed call of the kit's printer; Lean checks it.
import Derived.Test.YtgkpgigoonhgdaaPFnExactFlowMorex0
import Derived.Test.YtgkpgigoonhgdaaPFnExactFlowMorex1
import Derived.Test.YtgkpgigoonhgdaaPFnExactFlowMorex2
import Derived.Test.YtgkpgigoonhgdaaPFnExactFlowMorex3
import Derived.Test.YtgkpgigoonhgdaaPFnExactFlowMorex4
import Derived.Test.YtgkpgigoonhgdaaPFnExactFlowMorex5
import Derived.Test.YtgkpgigoonhgdaaPFnExactFlowMorex6
import Derived.Test.YtgkpgigoonhgdaaPFnExactFlowMorex7
import Derived.Test.YtgkpgigoonhgdaaPFnExactFlowMorex8
import Derived.Test.YtgkpgigoonhgdaaPFnExactFlowMorex9
import Derived.Test.YtgkpgigoonhgdaaPFnExactFlowMorex10
namespace Go.Proofs.Ytgkpgigoonhgdaa.PFnExactFlowMore
open Go.RowKit Go.Proofs.YtgkpgigoonhgdaaW.PrintWords Go.Proofs.YtgkpgigoonhgdaaW.PrintLast Go.Proofs.YtgkpgigoonhgdaaW.PrintMore
attribute [local go_sem] max2_int min2_int max_two min_two max_three min_three max_four min_four   -- for this text's walks alone
set_option linter.unusedVariables false
set_option linter.unusedSimpArgs false

end Go.Proofs.Ytgkpgigoonhgdaa.PFnExactFlowMore

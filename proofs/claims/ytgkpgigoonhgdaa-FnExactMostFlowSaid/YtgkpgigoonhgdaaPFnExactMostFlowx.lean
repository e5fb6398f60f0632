-- Made by the session's wip/pp.py, a changed call of the kit's printer; Lean checks it.
import Derived.Test.YtgkpgigoonhgdaaPFnExactMostFlowx0
import Derived.Test.YtgkpgigoonhgdaaPFnExactMostFlowx1
import Derived.Test.YtgkpgigoonhgdaaPFnExactMostFlowx2
import Derived.Test.YtgkpgigoonhgdaaPFnExactMostFlowx3
import Derived.Test.YtgkpgigoonhgdaaPFnExactMostFlowx4
import Derived.Test.YtgkpgigoonhgdaaPFnExactMostFlowx5
import Derived.Test.YtgkpgigoonhgdaaPFnExactMostFlowx6
import Derived.Test.YtgkpgigoonhgdaaPFnExactMostFlowx7
import Derived.Test.YtgkpgigoonhgdaaPFnExactMostFlowx8
import Derived.Test.YtgkpgigoonhgdaaPFnExactMostFlowx9
import Derived.Test.YtgkpgigoonhgdaaPFnExactMostFlowx10
import Derived.Test.YtgkpgigoonhgdaaPFnExactMostFlowx11
import Derived.Test.YtgkpgigoonhgdaaPFnExactMostFlowx12
import Derived.Test.YtgkpgigoonhgdaaPFnExactMostFlowx13
import Derived.Test.YtgkpgigoonhgdaaPFnExactMostFlowx14
import Derived.Test.YtgkpgigoonhgdaaPFnExactMostFlowx15
namespace Go.Proofs.Ytgkpgigoonhgdaa.PFnExactMostFlow
open Go.RowKit Go.Proofs.YtgkpgigoonhgdaaW.PrintWords Go.Proofs.YtgkpgigoonhgdaaW.PrintLast Go.Proofs.YtgkpgigoonhgdaaW.PrintMore
attribute [local go_sem] max2_int min2_int max_two min_two max_three min_three max_four min_four   -- for this text's walks alone
set_option linter.unusedVariables false
set_option linter.unusedSimpArgs false

end Go.Proofs.Ytgkpgigoonhgdaa.PFnExactMostFlow

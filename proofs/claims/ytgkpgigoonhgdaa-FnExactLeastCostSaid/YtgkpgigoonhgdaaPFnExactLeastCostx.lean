-- Made by the session's wip/pp.py, a changed call of the kit's printer; Lean checks it.
import Derived.Test.YtgkpgigoonhgdaaPFnExactLeastCostx0
import Derived.Test.YtgkpgigoonhgdaaPFnExactLeastCostx1
import Derived.Test.YtgkpgigoonhgdaaPFnExactLeastCostx2
import Derived.Test.YtgkpgigoonhgdaaPFnExactLeastCostx3
import Derived.Test.YtgkpgigoonhgdaaPFnExactLeastCostx4
import Derived.Test.YtgkpgigoonhgdaaPFnExactLeastCostx5
import Derived.Test.YtgkpgigoonhgdaaPFnExactLeastCostx6
import Derived.Test.YtgkpgigoonhgdaaPFnExactLeastCostx7
import Derived.Test.YtgkpgigoonhgdaaPFnExactLeastCostx8
import Derived.Test.YtgkpgigoonhgdaaPFnExactLeastCostx9
import Derived.Test.YtgkpgigoonhgdaaPFnExactLeastCostx10
import Derived.Test.YtgkpgigoonhgdaaPFnExactLeastCostx11
import Derived.Test.YtgkpgigoonhgdaaPFnExactLeastCostx12
import Derived.Test.YtgkpgigoonhgdaaPFnExactLeastCostx13
namespace Go.Proofs.Ytgkpgigoonhgdaa.PFnExactLeastCost
open Go.RowKit Go.Proofs.YtgkpgigoonhgdaaW.PrintWords Go.Proofs.YtgkpgigoonhgdaaW.PrintLast Go.Proofs.YtgkpgigoonhgdaaW.PrintMore
attribute [local go_sem] max2_int min2_int max_two min_two max_three min_three max_four min_four   -- for this text's walks alone
set_option linter.unusedVariables false
set_option linter.unusedSimpArgs false

end Go.Proofs.Ytgkpgigoonhgdaa.PFnExactLeastCost

-- Made by the session's wip/pp.py, a changed call of the kit's printer; Lean checks it.
import Derived.Test.YtgkpgigoonhgdaaPFnFlowsx0
import Derived.Test.YtgkpgigoonhgdaaPFnFlowsx1
import Derived.Test.YtgkpgigoonhgdaaPFnFlowsx2
import Derived.Test.YtgkpgigoonhgdaaPFnFlowsx3
import Derived.Test.YtgkpgigoonhgdaaPFnFlowsx4
import Derived.Test.YtgkpgigoonhgdaaPFnFlowsx5
import Derived.Test.YtgkpgigoonhgdaaPFnFlowsx6
import Derived.Test.YtgkpgigoonhgdaaPFnFlowsx7
import Derived.Test.YtgkpgigoonhgdaaPFnFlowsx8
import Derived.Test.YtgkpgigoonhgdaaPFnFlowsx9
import Derived.Test.YtgkpgigoonhgdaaPFnFlowsx10
import Derived.Test.YtgkpgigoonhgdaaPFnFlowsx11
import Derived.Test.YtgkpgigoonhgdaaPFnFlowsx12
import Derived.Test.YtgkpgigoonhgdaaPFnFlowsx13
import Derived.Test.YtgkpgigoonhgdaaPFnFlowsx14
import Derived.Test.YtgkpgigoonhgdaaPFnFlowsx15
import Derived.Test.YtgkpgigoonhgdaaPFnFlowsx16
namespace Go.Proofs.Ytgkpgigoonhgdaa.PFnFlows
open Go.RowKit Go.Proofs.YtgkpgigoonhgdaaW.PrintWords Go.Proofs.YtgkpgigoonhgdaaW.PrintLast Go.Proofs.YtgkpgigoonhgdaaW.PrintMore
attribute [local go_sem] max2_int min2_int max_two min_two max_three min_three max_four min_four   -- for this text's walks alone
set_option linter.unusedVariables false
set_option linter.unusedSimpArgs false

end Go.Proofs.Ytgkpgigoonhgdaa.PFnFlows

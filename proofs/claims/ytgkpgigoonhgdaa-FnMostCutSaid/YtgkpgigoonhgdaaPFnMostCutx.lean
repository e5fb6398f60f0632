-- Made by the session's wip/pp.py, a changed call of the kit's printer; Lean checks it.
import Derived.Test.YtgkpgigoonhgdaaPFnMostCutx0
import Derived.Test.YtgkpgigoonhgdaaPFnMostCutx1
import Derived.Test.YtgkpgigoonhgdaaPFnMostCutx2
import Derived.Test.YtgkpgigoonhgdaaPFnMostCutx3
import Derived.Test.YtgkpgigoonhgdaaPFnMostCutx4
import Derived.Test.YtgkpgigoonhgdaaPFnMostCutx5
import Derived.Test.YtgkpgigoonhgdaaPFnMostCutx6
import Derived.Test.YtgkpgigoonhgdaaPFnMostCutx7
import Derived.Test.YtgkpgigoonhgdaaPFnMostCutx8
import Derived.Test.YtgkpgigoonhgdaaPFnMostCutx9
import Derived.Test.YtgkpgigoonhgdaaPFnMostCutx10
import Derived.Test.YtgkpgigoonhgdaaPFnMostCutx11
import Derived.Test.YtgkpgigoonhgdaaPFnMostCutx12
import Derived.Test.YtgkpgigoonhgdaaPFnMostCutx13
import Derived.Test.YtgkpgigoonhgdaaPFnMostCutx14
import Derived.Test.YtgkpgigoonhgdaaPFnMostCutx15
import Derived.Test.YtgkpgigoonhgdaaPFnMostCutx16
namespace Go.Proofs.Ytgkpgigoonhgdaa.PFnMostCut
open Go.RowKit Go.Proofs.YtgkpgigoonhgdaaW.PrintWords Go.Proofs.YtgkpgigoonhgdaaW.PrintLast Go.Proofs.YtgkpgigoonhgdaaW.PrintMore
attribute [local go_sem] max2_int min2_int max_two min_two max_three min_three max_four min_four   -- for this text's walks alone
set_option linter.unusedVariables false
set_option linter.unusedSimpArgs false

end Go.Proofs.Ytgkpgigoonhgdaa.PFnMostCut

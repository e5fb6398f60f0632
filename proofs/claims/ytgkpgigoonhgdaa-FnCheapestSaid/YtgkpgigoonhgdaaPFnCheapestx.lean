-- Made by the session's wip/pp.py, a changed call of the kit's printer; Lean checks it.
import Derived.Test.YtgkpgigoonhgdaaPFnCheapestx0
import Derived.Test.YtgkpgigoonhgdaaPFnCheapestx1
import Derived.Test.YtgkpgigoonhgdaaPFnCheapestx2
import Derived.Test.YtgkpgigoonhgdaaPFnCheapestx3
import Derived.Test.YtgkpgigoonhgdaaPFnCheapestx4
import Derived.Test.YtgkpgigoonhgdaaPFnCheapestx5
import Derived.Test.YtgkpgigoonhgdaaPFnCheapestx6
import Derived.Test.YtgkpgigoonhgdaaPFnCheapestx7
import Derived.Test.YtgkpgigoonhgdaaPFnCheapestx8
import Derived.Test.YtgkpgigoonhgdaaPFnCheapestx9
import Derived.Test.YtgkpgigoonhgdaaPFnCheapestx10
import Derived.Test.YtgkpgigoonhgdaaPFnCheapestx11
import Derived.Test.YtgkpgigoonhgdaaPFnCheapestx12
import Derived.Test.YtgkpgigoonhgdaaPFnCheapestx13
import Derived.Test.YtgkpgigoonhgdaaPFnCheapestx14
namespace Go.Proofs.Ytgkpgigoonhgdaa.PFnCheapest
open Go.RowKit Go.Proofs.YtgkpgigoonhgdaaW.PrintWords Go.Proofs.YtgkpgigoonhgdaaW.PrintLast Go.Proofs.YtgkpgigoonhgdaaW.PrintMore
attribute [local go_sem] max2_int min2_int max_two min_two max_three min_three max_four min_four   -- for this text's walks alone
set_option linter.unusedVariables false
set_option linter.unusedSimpArgs false

end Go.Proofs.Ytgkpgigoonhgdaa.PFnCheapest

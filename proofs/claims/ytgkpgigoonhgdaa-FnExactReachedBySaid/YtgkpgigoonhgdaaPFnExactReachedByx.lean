-- Made by the session's wip/pp.py, a changed call of the kit's printer; Lean checks it.
import Derived.Test.YtgkpgigoonhgdaaPFnExactReachedByx0
import Derived.Test.YtgkpgigoonhgdaaPFnExactReachedByx1
import Derived.Test.YtgkpgigoonhgdaaPFnExactReachedByx2
import Derived.Test.YtgkpgigoonhgdaaPFnExactReachedByx3
import Derived.Test.YtgkpgigoonhgdaaPFnExactReachedByx4
import Derived.Test.YtgkpgigoonhgdaaPFnExactReachedByx5
import Derived.Test.YtgkpgigoonhgdaaPFnExactReachedByx6
import Derived.Test.YtgkpgigoonhgdaaPFnExactReachedByx7
import Derived.Test.YtgkpgigoonhgdaaPFnExactReachedByx8
import Derived.Test.YtgkpgigoonhgdaaPFnExactReachedByx9
import Derived.Test.YtgkpgigoonhgdaaPFnExactReachedByx10
import Derived.Test.YtgkpgigoonhgdaaPFnExactReachedByx11
import Derived.Test.YtgkpgigoonhgdaaPFnExactReachedByx12
import Derived.Test.YtgkpgigoonhgdaaPFnExactReachedByx13
namespace Go.Proofs.Ytgkpgigoonhgdaa.PFnExactReachedBy
open Go.RowKit Go.Proofs.YtgkpgigoonhgdaaW.PrintWords Go.Proofs.YtgkpgigoonhgdaaW.PrintLast Go.Proofs.YtgkpgigoonhgdaaW.PrintMore
attribute [local go_sem] max2_int min2_int max_two min_two max_three min_three max_four min_four   -- for this text's walks alone
set_option linter.unusedVariables false
set_option linter.unusedSimpArgs false

end Go.Proofs.Ytgkpgigoonhgdaa.PFnExactReachedBy

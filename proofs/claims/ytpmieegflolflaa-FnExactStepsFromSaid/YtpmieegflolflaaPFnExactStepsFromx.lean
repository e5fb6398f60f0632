-- Made by the session's wip/pp.py, a changed call of the kit's printer; Lean checks it.
import Derived.Test.YtpmieegflolflaaPFnExactStepsFromx0
import Derived.Test.YtpmieegflolflaaPFnExactStepsFromx1
import Derived.Test.YtpmieegflolflaaPFnExactStepsFromx2
import Derived.Test.YtpmieegflolflaaPFnExactStepsFromx3
import Derived.Test.YtpmieegflolflaaPFnExactStepsFromx4
import Derived.Test.YtpmieegflolflaaPFnExactStepsFromx5
import Derived.Test.YtpmieegflolflaaPFnExactStepsFromx6
import Derived.Test.YtpmieegflolflaaPFnExactStepsFromx7
import Derived.Test.YtpmieegflolflaaPFnExactStepsFromx8
import Derived.Test.YtpmieegflolflaaPFnExactStepsFromx9
namespace Go.Proofs.Ytpmieegflolflaa.PFnExactStepsFrom
open Go.RowKit Go.Proofs.YtpmieegflolflaaW.PrintWords Go.Proofs.YtpmieegflolflaaW.PrintLast Go.Proofs.YtpmieegflolflaaW.PrintMore
attribute [local go_sem] max2_int min2_int max_two min_two max_three min_three max_four min_four   -- for this text's walks alone
set_option linter.unusedVariables false
set_option linter.unusedSimpArgs false

end Go.Proofs.Ytpmieegflolflaa.PFnExactStepsFrom

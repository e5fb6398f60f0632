-- Made by the session's wip/pp.py, a changed call of the kit's printer; Lean checks it.
import Derived.Test.YtpmieegflolflaaPFnExactHomeOfx0
import Derived.Test.YtpmieegflolflaaPFnExactHomeOfx1
import Derived.Test.YtpmieegflolflaaPFnExactHomeOfx2
import Derived.Test.YtpmieegflolflaaPFnExactHomeOfx3
import Derived.Test.YtpmieegflolflaaPFnExactHomeOfx4
import Derived.Test.YtpmieegflolflaaPFnExactHomeOfx5
import Derived.Test.YtpmieegflolflaaPFnExactHomeOfx6
import Derived.Test.YtpmieegflolflaaPFnExactHomeOfx7
import Derived.Test.YtpmieegflolflaaPFnExactHomeOfx8
namespace Go.Proofs.Ytpmieegflolflaa.PFnExactHomeOf
open Go.RowKit Go.Proofs.YtpmieegflolflaaW.PrintWords Go.Proofs.YtpmieegflolflaaW.PrintLast Go.Proofs.YtpmieegflolflaaW.PrintMore
attribute [local go_sem] max2_int min2_int max_two min_two max_three min_three max_four min_four   -- for this text's walks alone
set_option linter.unusedVariables false
set_option linter.unusedSimpArgs false

end Go.Proofs.Ytpmieegflolflaa.PFnExactHomeOf

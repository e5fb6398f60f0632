-- Made by the session's wip/pp.py, a changed call of the kit's printer; Lean checks it.
import Derived.Test.YtpmieegflolflaaPFnExactHomesx0
import Derived.Test.YtpmieegflolflaaPFnExactHomesx1
import Derived.Test.YtpmieegflolflaaPFnExactHomesx2
import Derived.Test.YtpmieegflolflaaPFnExactHomesx3
import Derived.Test.YtpmieegflolflaaPFnExactHomesx4
import Derived.Test.YtpmieegflolflaaPFnExactHomesx5
import Derived.Test.YtpmieegflolflaaPFnExactHomesx6
import Derived.Test.YtpmieegflolflaaPFnExactHomesx7
import Derived.Test.YtpmieegflolflaaPFnExactHomesx8
import Derived.Test.YtpmieegflolflaaPFnExactHomesx9
import Derived.Test.YtpmieegflolflaaPFnExactHomesx10
namespace Go.Proofs.Ytpmieegflolflaa.PFnExactHomes
open Go.RowKit Go.Proofs.YtpmieegflolflaaW.PrintWords Go.Proofs.YtpmieegflolflaaW.PrintLast Go.Proofs.YtpmieegflolflaaW.PrintMore
attribute [local go_sem] max2_int min2_int max_two min_two max_three min_three max_four min_four   -- for this text's walks alone
set_option linter.unusedVariables false
set_option linter.unusedSimpArgs false

end Go.Proofs.Ytpmieegflolflaa.PFnExactHomes

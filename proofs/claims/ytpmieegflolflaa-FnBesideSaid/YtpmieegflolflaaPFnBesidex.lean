-- Made by the session's wip/pp.py, a changed call of the kit's printer; Lean checks it.
import Derived.Test.YtpmieegflolflaaPFnBesidex0
import Derived.Test.YtpmieegflolflaaPFnBesidex1
import Derived.Test.YtpmieegflolflaaPFnBesidex2
import Derived.Test.YtpmieegflolflaaPFnBesidex3
import Derived.Test.YtpmieegflolflaaPFnBesidex4
import Derived.Test.YtpmieegflolflaaPFnBesidex5
import Derived.Test.YtpmieegflolflaaPFnBesidex6
namespace Go.Proofs.Ytpmieegflolflaa.PFnBeside
open Go.RowKit Go.Proofs.YtpmieegflolflaaW.PrintWords Go.Proofs.YtpmieegflolflaaW.PrintLast Go.Proofs.YtpmieegflolflaaW.PrintMore
attribute [local go_sem] max2_int min2_int max_two min_two max_three min_three max_four min_four   -- for this text's walks alone
set_option linter.unusedVariables false
set_option linter.unusedSimpArgs false

end Go.Proofs.Ytpmieegflolflaa.PFnBeside

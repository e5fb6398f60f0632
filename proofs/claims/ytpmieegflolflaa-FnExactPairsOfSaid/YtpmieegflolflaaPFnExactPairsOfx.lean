-- Made by the session's wip/pp.py, a changed call of the kit's printer; Lean checks it.
import Derived.Test.YtpmieegflolflaaPFnExactPairsOfx0
import Derived.Test.YtpmieegflolflaaPFnExactPairsOfx1
import Derived.Test.YtpmieegflolflaaPFnExactPairsOfx2
import Derived.Test.YtpmieegflolflaaPFnExactPairsOfx3
import Derived.Test.YtpmieegflolflaaPFnExactPairsOfx4
import Derived.Test.YtpmieegflolflaaPFnExactPairsOfx5
import Derived.Test.YtpmieegflolflaaPFnExactPairsOfx6
namespace Go.Proofs.Ytpmieegflolflaa.PFnExactPairsOf
open Go.RowKit Go.Proofs.YtpmieegflolflaaW.PrintWords Go.Proofs.YtpmieegflolflaaW.PrintLast Go.Proofs.YtpmieegflolflaaW.PrintMore
attribute [local go_sem] max2_int min2_int max_two min_two max_three min_three max_four min_four   -- for this text's walks alone
set_option linter.unusedVariables false
set_option linter.unusedSimpArgs false

end Go.Proofs.Ytpmieegflolflaa.PFnExactPairsOf

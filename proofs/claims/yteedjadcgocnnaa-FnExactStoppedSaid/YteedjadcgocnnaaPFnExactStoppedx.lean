-- Made by the session's wip/pp.py, a changed call of the kit's printer; Lean checks it.
import Derived.Test.YteedjadcgocnnaaPFnExactStoppedx0
import Derived.Test.YteedjadcgocnnaaPFnExactStoppedx1
import Derived.Test.YteedjadcgocnnaaPFnExactStoppedx2
import Derived.Test.YteedjadcgocnnaaPFnExactStoppedx3
import Derived.Test.YteedjadcgocnnaaPFnExactStoppedx4
import Derived.Test.YteedjadcgocnnaaPFnExactStoppedx5
import Derived.Test.YteedjadcgocnnaaPFnExactStoppedx6
import Derived.Test.YteedjadcgocnnaaPFnExactStoppedx7
import Derived.Test.YteedjadcgocnnaaPFnExactStoppedx8
import Derived.Test.YteedjadcgocnnaaPFnExactStoppedx9
import Derived.Test.YteedjadcgocnnaaPFnExactStoppedx10
import Derived.Test.YteedjadcgocnnaaPFnExactStoppedx11
namespace Go.Proofs.Yteedjadcgocnnaa.PFnExactStopped
open Go.RowKit Go.Proofs.YteedjadcgocnnaaW.PrintWords Go.Proofs.YteedjadcgocnnaaW.PrintLast Go.Proofs.YteedjadcgocnnaaW.PrintMore
attribute [local go_sem] max2_int min2_int max_two min_two max_three min_three max_four min_four   -- for this text's walks alone
set_option linter.unusedVariables false
set_option linter.unusedSimpArgs false

end Go.Proofs.Yteedjadcgocnnaa.PFnExactStopped

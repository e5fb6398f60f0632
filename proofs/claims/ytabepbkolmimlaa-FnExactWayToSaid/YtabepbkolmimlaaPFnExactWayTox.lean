-- Made by the session's wip/pp.py, a changed call of the kit's printer; Lean checks it.
import Derived.Test.YtabepbkolmimlaaPFnExactWayTox0
import Derived.Test.YtabepbkolmimlaaPFnExactWayTox1
import Derived.Test.YtabepbkolmimlaaPFnExactWayTox2
import Derived.Test.YtabepbkolmimlaaPFnExactWayTox3
import Derived.Test.YtabepbkolmimlaaPFnExactWayTox4
import Derived.Test.YtabepbkolmimlaaPFnExactWayTox5
import Derived.Test.YtabepbkolmimlaaPFnExactWayTox6
import Derived.Test.YtabepbkolmimlaaPFnExactWayTox7
import Derived.Test.YtabepbkolmimlaaPFnExactWayTox8
import Derived.Test.YtabepbkolmimlaaPFnExactWayTox9
import Derived.Test.YtabepbkolmimlaaPFnExactWayTox10
namespace Go.Proofs.Ytabepbkolmimlaa.PFnExactWayTo
open Go.RowKit Go.Proofs.YtabepbkolmimlaaW.PrintWords Go.Proofs.YtabepbkolmimlaaW.PrintLast Go.Proofs.YtabepbkolmimlaaW.PrintMore
attribute [local go_sem] max2_int min2_int max_two min_two max_three min_three max_four min_four   -- for this text's walks alone
set_option linter.unusedVariables false
set_option linter.unusedSimpArgs false

end Go.Proofs.Ytabepbkolmimlaa.PFnExactWayTo

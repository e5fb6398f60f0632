-- Made by the session's wip/pp.py, a changed call of the kit's printer; Lean checks it.
import Derived.Test.YtabepbkolmimlaaPFnExactCountInx0
import Derived.Test.YtabepbkolmimlaaPFnExactCountInx1
import Derived.Test.YtabepbkolmimlaaPFnExactCountInx2
import Derived.Test.YtabepbkolmimlaaPFnExactCountInx3
import Derived.Test.YtabepbkolmimlaaPFnExactCountInx4
import Derived.Test.YtabepbkolmimlaaPFnExactCountInx5
import Derived.Test.YtabepbkolmimlaaPFnExactCountInx6
import Derived.Test.YtabepbkolmimlaaPFnExactCountInx7
import Derived.Test.YtabepbkolmimlaaPFnExactCountInx8
import Derived.Test.YtabepbkolmimlaaPFnExactCountInx9
namespace Go.Proofs.Ytabepbkolmimlaa.PFnExactCountIn
open Go.RowKit Go.Proofs.YtabepbkolmimlaaW.PrintWords Go.Proofs.YtabepbkolmimlaaW.PrintLast Go.Proofs.YtabepbkolmimlaaW.PrintMore
attribute [local go_sem] max2_int min2_int max_two min_two max_three min_three max_four min_four   -- for this text's walks alone
set_option linter.unusedVariables false
set_option linter.unusedSimpArgs false

end Go.Proofs.Ytabepbkolmimlaa.PFnExactCountIn

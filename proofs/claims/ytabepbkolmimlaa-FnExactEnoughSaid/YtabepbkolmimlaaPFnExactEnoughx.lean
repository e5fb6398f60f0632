-- Made by the session's wip/pp.py, a changed call of the kit's printer; Lean checks it.
import Derived.Test.YtabepbkolmimlaaPFnExactEnoughx0
import Derived.Test.YtabepbkolmimlaaPFnExactEnoughx1
import Derived.Test.YtabepbkolmimlaaPFnExactEnoughx2
import Derived.Test.YtabepbkolmimlaaPFnExactEnoughx3
import Derived.Test.YtabepbkolmimlaaPFnExactEnoughx4
import Derived.Test.YtabepbkolmimlaaPFnExactEnoughx5
import Derived.Test.YtabepbkolmimlaaPFnExactEnoughx6
import Derived.Test.YtabepbkolmimlaaPFnExactEnoughx7
import Derived.Test.YtabepbkolmimlaaPFnExactEnoughx8
import Derived.Test.YtabepbkolmimlaaPFnExactEnoughx9
import Derived.Test.YtabepbkolmimlaaPFnExactEnoughx10
import Derived.Test.YtabepbkolmimlaaPFnExactEnoughx11
import Derived.Test.YtabepbkolmimlaaPFnExactEnoughx12
import Derived.Test.YtabepbkolmimlaaPFnExactEnoughx13
namespace Go.Proofs.Ytabepbkolmimlaa.PFnExactEnough
open Go.RowKit Go.Proofs.YtabepbkolmimlaaW.PrintWords Go.Proofs.YtabepbkolmimlaaW.PrintLast Go.Proofs.YtabepbkolmimlaaW.PrintMore
attribute [local go_sem] max2_int min2_int max_two min_two max_three min_three max_four min_four   -- for this text's walks alone
set_option linter.unusedVariables false
set_option linter.unusedSimpArgs false

end Go.Proofs.Ytabepbkolmimlaa.PFnExactEnough

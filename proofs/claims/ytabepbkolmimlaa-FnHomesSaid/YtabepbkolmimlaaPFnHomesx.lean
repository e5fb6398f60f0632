-- Made by the session's wip/pp.py, a changed call of the kit's printer; Lean checks it.
import Derived.Test.YtabepbkolmimlaaPFnHomesx0
import Derived.Test.YtabepbkolmimlaaPFnHomesx1
import Derived.Test.YtabepbkolmimlaaPFnHomesx2
import Derived.Test.YtabepbkolmimlaaPFnHomesx3
import Derived.Test.YtabepbkolmimlaaPFnHomesx4
import Derived.Test.YtabepbkolmimlaaPFnHomesx5
import Derived.Test.YtabepbkolmimlaaPFnHomesx6
import Derived.Test.YtabepbkolmimlaaPFnHomesx7
import Derived.Test.YtabepbkolmimlaaPFnHomesx8
import Derived.Test.YtabepbkolmimlaaPFnHomesx9
import Derived.Test.YtabepbkolmimlaaPFnHomesx10
namespace Go.Proofs.Ytabepbkolmimlaa.PFnHomes
open Go.RowKit Go.Proofs.YtabepbkolmimlaaW.PrintWords Go.Proofs.YtabepbkolmimlaaW.PrintLast Go.Proofs.YtabepbkolmimlaaW.PrintMore
attribute [local go_sem] max2_int min2_int max_two min_two max_three min_three max_four min_four   -- for this text's walks alone
set_option linter.unusedVariables false
set_option linter.unusedSimpArgs false

end Go.Proofs.Ytabepbkolmimlaa.PFnHomes

-- Made by the session's wip/pp.py, a changed call of the kit's printer; Lean checks it.
import Derived.Test.YtabepbkolmimlaaPFnStepsx0
import Derived.Test.YtabepbkolmimlaaPFnStepsx1
import Derived.Test.YtabepbkolmimlaaPFnStepsx2
import Derived.Test.YtabepbkolmimlaaPFnStepsx3
import Derived.Test.YtabepbkolmimlaaPFnStepsx4
import Derived.Test.YtabepbkolmimlaaPFnStepsx5
import Derived.Test.YtabepbkolmimlaaPFnStepsx6
import Derived.Test.YtabepbkolmimlaaPFnStepsx7
import Derived.Test.YtabepbkolmimlaaPFnStepsx8
import Derived.Test.YtabepbkolmimlaaPFnStepsx9
namespace Go.Proofs.Ytabepbkolmimlaa.PFnSteps
open Go.RowKit Go.Proofs.YtabepbkolmimlaaW.PrintWords Go.Proofs.YtabepbkolmimlaaW.PrintLast Go.Proofs.YtabepbkolmimlaaW.PrintMore
attribute [local go_sem] max2_int min2_int max_two min_two max_three min_three max_four min_four   -- for this text's walks alone
set_option linter.unusedVariables false
set_option linter.unusedSimpArgs false

end Go.Proofs.Ytabepbkolmimlaa.PFnSteps

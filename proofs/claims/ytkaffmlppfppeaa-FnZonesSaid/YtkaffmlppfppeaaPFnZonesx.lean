-- Made by the session's wip/pp.py, a changed call of the kit's printer; Lean checks it.
import Derived.Test.YtkaffmlppfppeaaPFnZonesx0
import Derived.Test.YtkaffmlppfppeaaPFnZonesx1
import Derived.Test.YtkaffmlppfppeaaPFnZonesx2
import Derived.Test.YtkaffmlppfppeaaPFnZonesx3
import Derived.Test.YtkaffmlppfppeaaPFnZonesx4
namespace Go.Proofs.Ytkaffmlppfppeaa.PFnZones
open Go.RowKit Go.Proofs.YtkaffmlppfppeaaW.PrintWords Go.Proofs.YtkaffmlppfppeaaW.PrintLast Go.Proofs.YtkaffmlppfppeaaW.PrintMore
attribute [local go_sem] max2_int min2_int max_two min_two max_three min_three max_four min_four   -- for this text's walks alone
set_option linter.unusedVariables false
set_option linter.unusedSimpArgs false

end Go.Proofs.Ytkaffmlppfppeaa.PFnZones

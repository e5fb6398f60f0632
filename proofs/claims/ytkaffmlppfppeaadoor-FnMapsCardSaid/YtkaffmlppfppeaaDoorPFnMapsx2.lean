-- Made by the session's wip/pp.py, a changed call of the kit's printer; Lean checks it.
import Derived.Test.YtkaffmlppfppeaaDoorPFnMapsx0
import Derived.Test.YtkaffmlppfppeaaDoorDFnMaps
namespace Go.Proofs.YtkaffmlppfppeaaDoor.PFnMaps
open Go.RowKit Go.Proofs.YtkaffmlppfppeaaDoorW.PrintWords Go.Proofs.YtkaffmlppfppeaaDoorW.PrintLast Go.Proofs.YtkaffmlppfppeaaDoorW.PrintMore Go.Proofs.YtkaffmlppfppeaaDoor.DSpec Go.Proofs.YtkaffmlppfppeaaDoor.MBld Go.Proofs.YtkaffmlppfppeaaDoor.MStr Go.Proofs.YtkaffmlppfppeaaDoor
attribute [local go_sem] max2_int min2_int max_two min_two max_three min_three max_four min_four   -- for this text's walks alone
set_option linter.unusedVariables false
set_option linter.unusedSimpArgs false

end Go.Proofs.YtkaffmlppfppeaaDoor.PFnMaps

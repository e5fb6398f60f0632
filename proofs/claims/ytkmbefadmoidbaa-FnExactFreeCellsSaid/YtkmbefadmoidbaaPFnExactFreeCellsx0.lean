-- Made by the session's wip/pp.py, a changed call of the kit's printer; Lean checks it.
import Derived.Test.YtkmbefadmoidbaaProg
import Derived.Below
import Derived.Deep.Draws
import Derived.Deep.AppendLies
import Derived.Maps.AppendAt
import Derived.OwnWalk
import Derived.Laws.BytesArg
import Derived.Laws.MakeOwn
import Derived.Laws.OwnMore
import Derived.Deep.OwnRows
import Derived.Tactics
import Derived.Lib.ConvBytes
import Derived.Laws.Slices
import Derived.WalkKit
import Derived.KernelRfl
import Derived.RowKit3
import Derived.Deep.LoopGhost
import Derived.Deep.QuietTactic
import Derived.BigQuiet
import Derived.WideLaws
import Derived.Deep.DeepCutAuto
import Derived.Deep.CutBlock
import Derived.Deep.RegionHeld3
import Derived.Laws.Rows
import Derived.Lib.AppendStr
import Derived.ArgAppend
import Derived.Laws.IdiomCopy
import Derived.OrdersHeld
import Derived.Laws.BitsLemmas
import Derived.RowKit
import Derived.Test.YtkmbefadmoidbaaWWords
import Derived.Test.YtkmbefadmoidbaaWLast
import Derived.Test.YtkmbefadmoidbaaWTab
import Derived.Test.YtkmbefadmoidbaaWFour
import Derived.Test.YtkmbefadmoidbaaWQPut
import Derived.Test.YtkmbefadmoidbaaWApart
import Derived.Test.YtkmbefadmoidbaaWArr
import Derived.Test.YtkmbefadmoidbaaWZeros
import Derived.Test.YtkmbefadmoidbaaWFoot
import Derived.Test.YtkmbefadmoidbaaWKept
import Derived.Test.YtkmbefadmoidbaaWShare
import Derived.Test.YtkmbefadmoidbaaWN
import Derived.Test.YtkmbefadmoidbaaWFootNe
import Derived.Test.YtkmbefadmoidbaaWAt
import Derived.Test.YtkmbefadmoidbaaWEqStruct
import Derived.Test.YtkmbefadmoidbaaWRepsOne
import Derived.Test.YtkmbefadmoidbaaWInv
import Derived.Test.YtkmbefadmoidbaaWInvWords
import Derived.Test.YtkmbefadmoidbaaWGuard
import Derived.Test.YtkmbefadmoidbaaWNEv
import Derived.Test.YtkmbefadmoidbaaWMore
namespace Go.Proofs.Ytkmbefadmoidbaa.PFnExactFreeCells
open Go.RowKit Go.Proofs.YtkmbefadmoidbaaW.PrintWords Go.Proofs.YtkmbefadmoidbaaW.PrintLast Go.Proofs.YtkmbefadmoidbaaW.PrintMore
attribute [local go_sem] max2_int min2_int max_two min_two max_three min_three max_four min_four   -- for this text's walks alone
set_option linter.unusedVariables false
set_option linter.unusedSimpArgs false



def errW : Option Int → Value
  | none => .nilIface
  | some c => .iface 0 (.int .i64 c)
theorem errW_none : errW none = .nilIface := rfl
theorem errW_some (c : Int) : errW (some c) = .iface 0 (.int .i64 c) := rfl

theorem info3 : (Try.prog.info? 3).map (fun i => (i.zero, i.size, i.bytes)) = some (some (.int .i64 0), 1, 8) := by kernel_rfl
-- the values' own types

end Go.Proofs.Ytkmbefadmoidbaa.PFnExactFreeCells

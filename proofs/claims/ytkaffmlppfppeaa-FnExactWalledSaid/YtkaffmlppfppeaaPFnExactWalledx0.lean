-- Made by the session's wip/pp.py, a changed call of the kit's printer; Lean checks it.
import Derived.Test.YtkaffmlppfppeaaProg
import Derived.Below
import Derived.Deep.Draws
import Derived.Deep.AppendLies
import Derived.Maps.AppendAt
import Derived.OwnWalk
import Derived.Laws.BytesArg
import Derived.Laws.MakeOwn
import Derived.Laws.OwnMore
import Derived.Deep.OwnRows
import Derived.Tactics
import Derived.Lib.ConvBytes
import Derived.Laws.Slices
import Derived.WalkKit
import Derived.KernelRfl
import Derived.RowKit3
import Derived.Deep.LoopGhost
import Derived.Deep.QuietTactic
import Derived.BigQuiet
import Derived.WideLaws
import Derived.Deep.DeepCutAuto
import Derived.Deep.CutBlock
import Derived.Deep.RegionHeld3
import Derived.Laws.Rows
import Derived.Lib.AppendStr
import Derived.ArgAppend
import Derived.Laws.IdiomCopy
import Derived.OrdersHeld
import Derived.Laws.BitsLemmas
import Derived.RowKit
import Derived.Test.YtkaffmlppfppeaaWWords
import Derived.Test.YtkaffmlppfppeaaWLast
import Derived.Test.YtkaffmlppfppeaaWTab
import Derived.Test.YtkaffmlppfppeaaWFour
import Derived.Test.YtkaffmlppfppeaaWQPut
import Derived.Test.YtkaffmlppfppeaaWApart
import Derived.Test.YtkaffmlppfppeaaWArr
import Derived.Test.YtkaffmlppfppeaaWZeros
import Derived.Test.YtkaffmlppfppeaaWFoot
import Derived.Test.YtkaffmlppfppeaaWKept
import Derived.Test.YtkaffmlppfppeaaWShare
import Derived.Test.YtkaffmlppfppeaaWN
import Derived.Test.YtkaffmlppfppeaaWFootNe
import Derived.Test.YtkaffmlppfppeaaWAt
import Derived.Test.YtkaffmlppfppeaaWEqStruct
import Derived.Test.YtkaffmlppfppeaaWRepsOne
import Derived.Test.YtkaffmlppfppeaaWInv
import Derived.Test.YtkaffmlppfppeaaWInvWords
import Derived.Test.YtkaffmlppfppeaaWGuard
import Derived.Test.YtkaffmlppfppeaaWNEv
import Derived.Test.YtkaffmlppfppeaaWMore
namespace Go.Proofs.Ytkaffmlppfppeaa.PFnExactWalled
open Go.RowKit Go.Proofs.YtkaffmlppfppeaaW.PrintWords Go.Proofs.YtkaffmlppfppeaaW.PrintLast Go.Proofs.YtkaffmlppfppeaaW.PrintMore
attribute [local go_sem] max2_int min2_int max_two min_two max_three min_three max_four min_four   -- for this text's walks alone
set_option linter.unusedVariables false
set_option linter.unusedSimpArgs false



def errW : Option Int → Value
  | none => .nilIface
  | some c => .iface 0 (.int .i64 c)
theorem errW_none : errW none = .nilIface := rfl
theorem errW_some (c : Int) : errW (some c) = .iface 0 (.int .i64 c) := rfl

theorem info3 : (Try.prog.info? 3).map (fun i => (i.zero, i.size, i.bytes)) = some (some (.int .i64 0), 1, 8) := by kernel_rfl
theorem info5 : (Try.prog.info? 5).map (fun i => (i.zero, i.size, i.bytes)) = some (some (.int .u8 0), 1, 1) := by kernel_rfl
-- the values' own types

end Go.Proofs.Ytkaffmlppfppeaa.PFnExactWalled

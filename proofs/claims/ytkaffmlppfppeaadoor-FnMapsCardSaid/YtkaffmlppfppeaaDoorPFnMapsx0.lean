-- Made by the session's wip/pp.py, a changed call of the kit's printer; Lean checks it.
import Derived.Test.YtkaffmlppfppeaaDoorProg
import Derived.Below
import Derived.Deep.Draws
import Derived.Deep.AppendLies
import Derived.Maps.AppendAt
import Derived.OwnWalk
import Derived.Laws.BytesArg
import Derived.Laws.MakeOwn
import Derived.Laws.OwnMore
import Derived.Deep.OwnRows
import Derived.Tactics
import Derived.Lib.ConvBytes
import Derived.Laws.Slices
import Derived.WalkKit
import Derived.KernelRfl
import Derived.RowKit3
import Derived.Deep.LoopGhost
import Derived.Deep.QuietTactic
import Derived.BigQuiet
import Derived.WideLaws
import Derived.Deep.DeepCutAuto
import Derived.Deep.CutBlock
import Derived.Deep.RegionHeld3
import Derived.Laws.Rows
import Derived.Lib.AppendStr
import Derived.ArgAppend
import Derived.Laws.IdiomCopy
import Derived.OrdersHeld
import Derived.Laws.BitsLemmas
import Derived.RowKit
import Derived.Test.YtkaffmlppfppeaaDoorWWords
import Derived.Test.YtkaffmlppfppeaaDoorWLast
import Derived.Test.YtkaffmlppfppeaaDoorWTab
import Derived.Test.YtkaffmlppfppeaaDoorWFour
import Derived.Test.YtkaffmlppfppeaaDoorWQPut
import Derived.Test.YtkaffmlppfppeaaDoorWApart
import Derived.Test.YtkaffmlppfppeaaDoorWArr
import Derived.Test.YtkaffmlppfppeaaDoorWZeros
import Derived.Test.YtkaffmlppfppeaaDoorWFoot
import Derived.Test.YtkaffmlppfppeaaDoorWKept
import Derived.Test.YtkaffmlppfppeaaDoorWShare
import Derived.Test.YtkaffmlppfppeaaDoorWN
import Derived.Test.YtkaffmlppfppeaaDoorWFootNe
import Derived.Test.YtkaffmlppfppeaaDoorWAt
import Derived.Test.YtkaffmlppfppeaaDoorWEqStruct
import Derived.Test.YtkaffmlppfppeaaDoorWRepsOne
import Derived.Test.YtkaffmlppfppeaaDoorWInv
import Derived.Test.YtkaffmlppfppeaaDoorWInvWords
import Derived.Test.YtkaffmlppfppeaaDoorWGuard
import Derived.Test.YtkaffmlppfppeaaDoorWNEv
import Derived.Test.YtkaffmlppfppeaaDoorWMore
namespace Go.Proofs.YtkaffmlppfppeaaDoor.PFnMaps
open Go.RowKit Go.Proofs.YtkaffmlppfppeaaDoorW.PrintWords Go.Proofs.YtkaffmlppfppeaaDoorW.PrintLast Go.Proofs.YtkaffmlppfppeaaDoorW.PrintMore
attribute [local go_sem] max2_int min2_int max_two min_two max_three min_three max_four min_four   -- for this text's walks alone
set_option linter.unusedVariables false
set_option linter.unusedSimpArgs false



def errW : Option Int → Value
  | none => .nilIface
  | some c => .iface 95 (.int .i64 c)
theorem errW_none : errW none = .nilIface := rfl
theorem errW_some (c : Int) : errW (some c) = .iface 95 (.int .i64 c) := rfl

theorem info3 : (Tryd.prog.info? 3).map (fun i => (i.zero, i.size, i.bytes)) = some (some (.int .i64 0), 1, 8) := by kernel_rfl
theorem info5 : (Tryd.prog.info? 5).map (fun i => (i.zero, i.size, i.bytes)) = some (some (.int .u8 0), 1, 1) := by kernel_rfl
theorem info9 : (Tryd.prog.info? 9).map (fun i => (i.zero, i.size, i.bytes)) = some (some (.string ⟨#[]⟩), 1, 16) := by kernel_rfl
-- the values' own types

end Go.Proofs.YtkaffmlppfppeaaDoor.PFnMaps

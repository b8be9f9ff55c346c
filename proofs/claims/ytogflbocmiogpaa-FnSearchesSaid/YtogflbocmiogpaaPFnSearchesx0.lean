-- Written for this claim by this session's turned copy of the printer.
import Derived.Test.YtogflbocmiogpaaProg
import Derived.Below
import Derived.Deep.Draws
import Derived.Deep.AppendLies
import Derived.Maps.AppendAt
import Derived.OwnWalk
import Derived.Laws.BytesArg
import Derived.Laws.MakeOwn
import Derived.Laws.OwnMore
import Derived.Deep.OwnRows
import Derived.Tactics
import Derived.Lib.ConvBytes
import Derived.Laws.Slices
import Derived.WalkKit
import Derived.KernelRfl
import Derived.RowKit3
import Derived.Deep.LoopGhost
import Derived.Deep.QuietTactic
import Derived.BigQuiet
import Derived.WideLaws
import Derived.Deep.DeepCutAuto
import Derived.Deep.CutBlock
import Derived.Deep.RegionHeld3
import Derived.Laws.Rows
import Derived.Lib.AppendStr
import Derived.ArgAppend
import Derived.Laws.IdiomCopy
import Derived.OrdersHeld
import Derived.Laws.BitsLemmas
import Derived.RowKit
import Derived.Deep.RegionHeld3
import Derived.Test.YtogflbocmiogpaaWWords
import Derived.Test.YtogflbocmiogpaaWLast
import Derived.Test.YtogflbocmiogpaaWTab
import Derived.Test.YtogflbocmiogpaaWFour
import Derived.Test.YtogflbocmiogpaaWQPut
import Derived.Test.YtogflbocmiogpaaWApart
import Derived.Test.YtogflbocmiogpaaWArr
import Derived.Test.YtogflbocmiogpaaWZeros
import Derived.Test.YtogflbocmiogpaaWFoot
import Derived.Test.YtogflbocmiogpaaWKept
import Derived.Test.YtogflbocmiogpaaWShare
import Derived.Test.YtogflbocmiogpaaWN
import Derived.Test.YtogflbocmiogpaaWFootNe
import Derived.Test.YtogflbocmiogpaaWAt
import Derived.Test.YtogflbocmiogpaaWEqStruct
import Derived.Test.YtogflbocmiogpaaWRepsOne
import Derived.Test.YtogflbocmiogpaaWInv
import Derived.Test.YtogflbocmiogpaaWInvWords
import Derived.Test.YtogflbocmiogpaaWGuard
import Derived.Test.YtogflbocmiogpaaWNEv
import Derived.Test.YtogflbocmiogpaaWMore
namespace Go.Proofs.Ytogflbocmiogpaa.PFnSearches
open Go.RowKit Go.Proofs.YtogflbocmiogpaaW.PrintWords Go.Proofs.YtogflbocmiogpaaW.PrintLast Go.Proofs.YtogflbocmiogpaaW.PrintMore
attribute [local go_sem] max2_int min2_int max_two min_two max_three min_three max_four min_four   -- for this text's walks alone
set_option linter.unusedVariables false
set_option linter.unusedSimpArgs false

def errW : Option Int → Value
 | none => .nilIface
 | some c => .iface 0 (.int .i64 c)
theorem errW_none : errW none = .nilIface := rfl
theorem errW_some (c : Int) : errW (some c) = .iface 0 (.int .i64 c) := rfl

theorem info3 : (Try.prog.info? 3).map (fun i => (i.zero, i.size, i.bytes)) = some (some (.int .i64 0), 1, 8) := by kernel_rfl
theorem info5 : (Try.prog.info? 5).map (fun i => (i.zero, i.size, i.bytes)) = some (some (.int .u8 0), 1, 1) := by kernel_rfl
-- the values' own types

/-! #### struct type 25 -/

end Go.Proofs.Ytogflbocmiogpaa.PFnSearches

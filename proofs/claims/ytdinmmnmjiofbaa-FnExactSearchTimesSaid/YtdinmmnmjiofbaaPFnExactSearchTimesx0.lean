-- Written for this claim by this session's turned copy of the printer.
import Derived.Test.YtdinmmnmjiofbaaProg
import Derived.Below
import Derived.Deep.Draws
import Derived.Deep.AppendLies
import Derived.Maps.AppendAt
import Derived.OwnWalk
import Derived.Laws.BytesArg
import Derived.Laws.MakeOwn
import Derived.Laws.OwnMore
import Derived.Deep.OwnRows
import Derived.Tactics
import Derived.Lib.ConvBytes
import Derived.Laws.Slices
import Derived.WalkKit
import Derived.KernelRfl
import Derived.RowKit3
import Derived.Deep.LoopGhost
import Derived.Deep.QuietTactic
import Derived.BigQuiet
import Derived.WideLaws
import Derived.Deep.DeepCutAuto
import Derived.Deep.CutBlock
import Derived.Deep.RegionHeld3
import Derived.Laws.Rows
import Derived.Lib.AppendStr
import Derived.ArgAppend
import Derived.Laws.IdiomCopy
import Derived.OrdersHeld
import Derived.Laws.BitsLemmas
import Derived.RowKit
import Derived.Test.YtdinmmnmjiofbaaWWords
import Derived.Test.YtdinmmnmjiofbaaWLast
import Derived.Test.YtdinmmnmjiofbaaWTab
import Derived.Test.YtdinmmnmjiofbaaWFour
import Derived.Test.YtdinmmnmjiofbaaWQPut
import Derived.Test.YtdinmmnmjiofbaaWApart
import Derived.Test.YtdinmmnmjiofbaaWArr
import Derived.Test.YtdinmmnmjiofbaaWZeros
import Derived.Test.YtdinmmnmjiofbaaWFoot
import Derived.Test.YtdinmmnmjiofbaaWKept
import Derived.Test.YtdinmmnmjiofbaaWShare
import Derived.Test.YtdinmmnmjiofbaaWN
import Derived.Test.YtdinmmnmjiofbaaWFootNe
import Derived.Test.YtdinmmnmjiofbaaWAt
import Derived.Test.YtdinmmnmjiofbaaWEqStruct
import Derived.Test.YtdinmmnmjiofbaaWRepsOne
import Derived.Test.YtdinmmnmjiofbaaWInv
import Derived.Test.YtdinmmnmjiofbaaWInvWords
import Derived.Test.YtdinmmnmjiofbaaWGuard
import Derived.Test.YtdinmmnmjiofbaaWNEv
import Derived.Test.YtdinmmnmjiofbaaWMore
namespace Go.Proofs.Ytdinmmnmjiofbaa.PFnExactSearchTimes
open Go.RowKit Go.Proofs.YtdinmmnmjiofbaaW.PrintWords Go.Proofs.YtdinmmnmjiofbaaW.PrintLast Go.Proofs.YtdinmmnmjiofbaaW.PrintMore
attribute [local go_sem] max2_int min2_int max_two min_two max_three min_three max_four min_four   -- for this text's walks alone
set_option linter.unusedVariables false
set_option linter.unusedSimpArgs false



def errW : Option Int → Value
  | none => .nilIface
  | some c => .iface 0 (.int .i64 c)
theorem errW_none : errW none = .nilIface := rfl
theorem errW_some (c : Int) : errW (some c) = .iface 0 (.int .i64 c) := rfl

theorem info3 : (Try.prog.info? 3).map (fun i => (i.zero, i.size, i.bytes)) = some (some (.int .i64 0), 1, 8) := by kernel_rfl
-- the values' own types

end Go.Proofs.Ytdinmmnmjiofbaa.PFnExactSearchTimes

-- Written for this claim by this session's turned copy of the printer.
import Derived.Test.YtaomldgodfbokaaProg
import Derived.Below
import Derived.Deep.Draws
import Derived.Deep.AppendLies
import Derived.Maps.AppendAt
import Derived.OwnWalk
import Derived.Laws.BytesArg
import Derived.Laws.MakeOwn
import Derived.Laws.OwnMore
import Derived.Deep.OwnRows
import Derived.Tactics
import Derived.Lib.ConvBytes
import Derived.Laws.Slices
import Derived.WalkKit
import Derived.KernelRfl
import Derived.RowKit3
import Derived.Deep.LoopGhost
import Derived.Deep.QuietTactic
import Derived.BigQuiet
import Derived.WideLaws
import Derived.Deep.DeepCutAuto
import Derived.Deep.CutBlock
import Derived.Deep.RegionHeld3
import Derived.Laws.Rows
import Derived.Lib.AppendStr
import Derived.ArgAppend
import Derived.Laws.IdiomCopy
import Derived.OrdersHeld
import Derived.Laws.BitsLemmas
import Derived.RowKit
import Derived.Laws.EntriesVeiled
import Derived.Test.YtaomldgodfbokaaWWords
import Derived.Test.YtaomldgodfbokaaWLast
import Derived.Test.YtaomldgodfbokaaWTab
import Derived.Test.YtaomldgodfbokaaWFour
import Derived.Test.YtaomldgodfbokaaWQPut
import Derived.Test.YtaomldgodfbokaaWApart
import Derived.Test.YtaomldgodfbokaaWArr
import Derived.Test.YtaomldgodfbokaaWZeros
import Derived.Test.YtaomldgodfbokaaWFoot
import Derived.Test.YtaomldgodfbokaaWKept
import Derived.Test.YtaomldgodfbokaaWShare
import Derived.Test.YtaomldgodfbokaaWN
import Derived.Test.YtaomldgodfbokaaWFootNe
import Derived.Test.YtaomldgodfbokaaWAt
import Derived.Test.YtaomldgodfbokaaWEqStruct
import Derived.Test.YtaomldgodfbokaaWRepsOne
import Derived.Test.YtaomldgodfbokaaWInv
import Derived.Test.YtaomldgodfbokaaWInvWords
import Derived.Test.YtaomldgodfbokaaWGuard
import Derived.Test.YtaomldgodfbokaaWNEv
import Derived.Test.YtaomldgodfbokaaWMore
namespace Go.Proofs.Ytaomldgodfbokaa.PFnExactBestSearch
open Go.RowKit Go.Proofs.YtaomldgodfbokaaW.PrintWords Go.Proofs.YtaomldgodfbokaaW.PrintLast Go.Proofs.YtaomldgodfbokaaW.PrintMore
attribute [local go_sem] max2_int min2_int max_two min_two max_three min_three max_four min_four   -- for this text's walks alone
set_option linter.unusedVariables false
set_option linter.unusedSimpArgs false

def errW : Option Int → Value
  | none => .nilIface
  | some c => .iface 0 (.int .i64 c)
theorem errW_none : errW none = .nilIface := rfl
theorem errW_some (c : Int) : errW (some c) = .iface 0 (.int .i64 c) := rfl

theorem info3 : (Try.prog.info? 3).map (fun i => (i.zero, i.size, i.bytes)) = some (some (.int .i64 0), 1, 8) := by kernel_rfl
-- the values' own types
/-! #### struct type 27 -/

end Go.Proofs.Ytaomldgodfbokaa.PFnExactBestSearch

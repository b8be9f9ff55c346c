-- Written for this claim by this session's turned copy of the printer.
import Derived.Test.YthlialpfknefmaaDoorProg
import Derived.Below
import Derived.Deep.Draws
import Derived.Deep.AppendLies
import Derived.Maps.AppendAt
import Derived.OwnWalk
import Derived.Laws.BytesArg
import Derived.Laws.MakeOwn
import Derived.Laws.OwnMore
import Derived.Deep.OwnRows
import Derived.Tactics
import Derived.Lib.ConvBytes
import Derived.Laws.Slices
import Derived.WalkKit
import Derived.KernelRfl
import Derived.RowKit3
import Derived.Deep.LoopGhost
import Derived.Deep.QuietTactic
import Derived.BigQuiet
import Derived.WideLaws
import Derived.Deep.DeepCutAuto
import Derived.Deep.CutBlock
import Derived.Deep.RegionHeld3
import Derived.Laws.Rows
import Derived.Lib.AppendStr
import Derived.ArgAppend
import Derived.Laws.IdiomCopy
import Derived.OrdersHeld
import Derived.Laws.BitsLemmas
import Derived.RowKit
import Derived.Test.YthlialpfknefmaaDoorLaidFnExactParseInt
import Derived.Test.YthlialpfknefmaaDoorWWords
import Derived.Test.YthlialpfknefmaaDoorWLast
import Derived.Test.YthlialpfknefmaaDoorWTab
import Derived.Test.YthlialpfknefmaaDoorWFour
import Derived.Test.YthlialpfknefmaaDoorWQPut
import Derived.Test.YthlialpfknefmaaDoorWApart
import Derived.Test.YthlialpfknefmaaDoorWArr
import Derived.Test.YthlialpfknefmaaDoorWZeros
import Derived.Test.YthlialpfknefmaaDoorWFoot
import Derived.Test.YthlialpfknefmaaDoorWKept
import Derived.Test.YthlialpfknefmaaDoorWShare
import Derived.Test.YthlialpfknefmaaDoorWN
import Derived.Test.YthlialpfknefmaaDoorWFootNe
import Derived.Test.YthlialpfknefmaaDoorWAt
import Derived.Test.YthlialpfknefmaaDoorWEqStruct
import Derived.Test.YthlialpfknefmaaDoorWRepsOne
import Derived.Test.YthlialpfknefmaaDoorWInv
import Derived.Test.YthlialpfknefmaaDoorWInvWords
import Derived.Test.YthlialpfknefmaaDoorWGuard
import Derived.Test.YthlialpfknefmaaDoorWNEv
import Derived.Test.YthlialpfknefmaaDoorWMore
namespace Go.Proofs.YthlialpfknefmaaDoor.PFnExactParseInt
open Go.RowKit Go.Proofs.YthlialpfknefmaaDoorW.PrintWords Go.Proofs.YthlialpfknefmaaDoorW.PrintLast Go.Proofs.YthlialpfknefmaaDoorW.PrintMore
attribute [local go_sem] max2_int min2_int max_two min_two max_three min_three max_four min_four   -- for this text's walks alone
set_option linter.unusedVariables false
set_option linter.unusedSimpArgs false



def errW : Option Int → Value
  | none => .nilIface
  | some c => .iface 0 (.int .i64 c)
theorem errW_none : errW none = .nilIface := rfl
theorem errW_some (c : Int) : errW (some c) = .iface 0 (.int .i64 c) := rfl

-- the values' own types

end Go.Proofs.YthlialpfknefmaaDoor.PFnExactParseInt

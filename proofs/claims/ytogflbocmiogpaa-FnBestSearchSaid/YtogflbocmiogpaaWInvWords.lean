-- Shortened for this claim by this session: what the claim's theorem does not reach is taken out of a text that print.sh had printed.
import Derived.Test.YtogflbocmiogpaaWInv
import Derived.Test.YtogflbocmiogpaaWFootNe
namespace Go.Proofs.YtogflbocmiogpaaW.PrintWords
open Go.RowKit
end Go.Proofs.YtogflbocmiogpaaW.PrintWords
namespace Go.Proofs.YtogflbocmiogpaaW.PrintLast
section
variable {ops : Array Oper} {a : Act} {o og : Oper} {g : Nat} {t : Tmp} {u : Bool}
end
end Go.Proofs.YtogflbocmiogpaaW.PrintLast

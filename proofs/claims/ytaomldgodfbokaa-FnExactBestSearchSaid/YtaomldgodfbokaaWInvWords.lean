-- Shortened for this claim by this session: what the claim's theorem does not reach is taken out of a text that print.sh had printed.
import Derived.Test.YtaomldgodfbokaaWInv
import Derived.Test.YtaomldgodfbokaaWFootNe
namespace Go.Proofs.YtaomldgodfbokaaW.PrintWords
open Go.RowKit
end Go.Proofs.YtaomldgodfbokaaW.PrintWords
namespace Go.Proofs.YtaomldgodfbokaaW.PrintLast
section
variable {ops : Array Oper} {a : Act} {o og : Oper} {g : Nat} {t : Tmp} {u : Bool}
end
end Go.Proofs.YtaomldgodfbokaaW.PrintLast

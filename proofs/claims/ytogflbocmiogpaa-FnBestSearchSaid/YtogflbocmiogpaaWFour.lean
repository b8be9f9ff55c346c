-- Shortened for this claim by this session: what the claim's theorem does not reach is taken out of a text that print.sh had printed.
import Derived.Test.YtogflbocmiogpaaWTab
/-! ### 56. Four, five, six operations that may come up next, in any order -/
namespace Go.Proofs.YtogflbocmiogpaaW.PrintLast
section
variable {P : Program} {ops : Array Oper} {Q : Exit → Act → World → Prop} {md : Region.Mode} {S : World → Prop} {ds : List Nat} {T : Bool × List (List Nat × List Nat)}
end
end Go.Proofs.YtogflbocmiogpaaW.PrintLast

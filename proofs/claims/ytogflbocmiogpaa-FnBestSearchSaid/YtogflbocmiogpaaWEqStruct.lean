-- Shortened for this claim by this session: what the claim's theorem does not reach is taken out of a text that print.sh had printed.
import Derived.Test.YtogflbocmiogpaaWWords
import Derived.Laws.StructEq
/-! ### 53. '==' of structs as_ one Bool -/
namespace Go.Proofs.YtogflbocmiogpaaW.PrintWords
open Go.RowKit
section
variable {P : Program} {d : Nat} {xs ys : Array Value} {f : Field} {fs : List Field} {a b : Value} {r s : Bool} {w : World}
end
end Go.Proofs.YtogflbocmiogpaaW.PrintWords

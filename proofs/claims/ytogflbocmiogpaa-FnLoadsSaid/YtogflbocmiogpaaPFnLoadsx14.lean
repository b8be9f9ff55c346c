-- Written for this claim by this session's turned copy of the printer.
import Derived.Test.YtogflbocmiogpaaPFnLoadsx0
import Derived.Test.YtogflbocmiogpaaPFnLoadsx13
namespace Go.Proofs.Ytogflbocmiogpaa.PFnLoads
open Go.RowKit Go.Proofs.YtogflbocmiogpaaW.PrintWords Go.Proofs.YtogflbocmiogpaaW.PrintLast Go.Proofs.YtogflbocmiogpaaW.PrintMore
attribute [local go_sem] max2_int min2_int max_two min_two max_three min_three max_four min_four   -- for this text's walks alone
set_option linter.unusedVariables false
set_option linter.unusedSimpArgs false

/-! ### spec_l3Next: function 133 -/
mutual
def spec_l3Next.j0 : Nat → Int → List Int → Int → Bool → Int → Bool → Option (Bool)
 | 0, _, _, _, _, _, _ => none
 | k + 1, x1, x2, x3, x31, x397000, x397001 => if x31 = true then (some false) else (spec_l3Next.l0 k x1 x2 x3 0 x397000 x397001)
def spec_l3Next.l0 : Nat → Int → List Int → Int → Int → Int → Bool → Option (Bool)
 | 0, _, _, _, _, _, _ => none
 | k + 1, x1, x2, x3, x9, x397000, x397001 => if x9 < (x2.length : Int) then (if 0 ≤ x9 then (if ((decide ((rd x2 x9) > x1)) == (decide (x3 > x1))) = true then ((spec_l2Gap.f x397000 x397001 x1 x3).bind fun t399 => ((spec_l2Gap.f x397000 x397001 x1 (rd x2 x9)).bind fun t401 => (if t399 ≤ t401 then (some false) else (spec_l3Next.l0 k x1 x2 x3 (wrap64 (x9 + 1)) x397000 x397001)))) else (spec_l3Next.l0 k x1 x2 x3 (wrap64 (x9 + 1)) x397000 x397001)) else (none)) else (some true)
end
def spec_l3Next.f (k : Nat) (a0_0 : Int) (a0_1 : Bool) (a1 : Int) (l2 : List Int) (a3 : Int) : Option (Bool) := if a3 = a1 then (spec_l3Next.j0 k a1 l2 a3 true a0_0 a0_1) else (if (l2.length : Int) > 0 then (if 0 ≤ (wrap64 ((l2.length : Int) - 1)) then (if (wrap64 ((l2.length : Int) - 1)) < (l2.length : Int) then (spec_l3Next.j0 k a1 l2 a3 ((decide (a3 > a1)) == (decide ((rd l2 (wrap64 ((l2.length : Int) - 1))) > a1))) a0_0 a0_1) else (none)) else (none)) else (spec_l3Next.j0 k a1 l2 a3 false a0_0 a0_1))
end Go.Proofs.Ytogflbocmiogpaa.PFnLoads

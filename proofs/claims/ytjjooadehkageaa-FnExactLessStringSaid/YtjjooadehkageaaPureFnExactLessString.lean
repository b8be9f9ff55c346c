/- The plain side of the law FnExactLessString: the printed law, whatever its input (within the form's bounds), comes to true. No other condition. -/
import Derived.Test.YtjjooadehkageaaPFnExactLessStringx1
namespace Go.Proofs.Ytjjooadehkageaa.Pure
open Go.RowKit Go.Proofs.Ytjjooadehkageaa.PFnExactLessString Go.Proofs.YtjjooadehkageaaW.PrintWords Go.Proofs.YtjjooadehkageaaW.PrintLast Go.Proofs.YtjjooadehkageaaW.PrintMore
set_option linter.unusedVariables false
set_option linter.unusedSimpArgs false

theorem FnExactLessString : laws_FnExactLessString.Pure := by
  intro a b _ _
  unfold laws_FnExactLessString.f spec_LessString.f impl_LessString.f
  simp

end Go.Proofs.Ytjjooadehkageaa.Pure

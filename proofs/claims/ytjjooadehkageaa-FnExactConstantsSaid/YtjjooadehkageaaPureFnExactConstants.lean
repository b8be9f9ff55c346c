/- The plain side of the law FnExactConstants: the printed law, whatever its input (within the form's bounds), comes to true. No other condition. -/
import Derived.Test.YtjjooadehkageaaPFnExactConstantsx1
namespace Go.Proofs.Ytjjooadehkageaa.Pure
open Go.RowKit Go.Proofs.Ytjjooadehkageaa.PFnExactConstants Go.Proofs.YtjjooadehkageaaW.PrintWords Go.Proofs.YtjjooadehkageaaW.PrintLast Go.Proofs.YtjjooadehkageaaW.PrintMore
set_option linter.unusedVariables false
set_option linter.unusedSimpArgs false

theorem FnExactConstants : laws_FnExactConstants.Pure := rfl

end Go.Proofs.Ytjjooadehkageaa.Pure

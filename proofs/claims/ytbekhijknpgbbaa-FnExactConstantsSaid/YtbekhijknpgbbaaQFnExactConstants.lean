/- The pure statement of the law FnExactConstants: for all arguments the two functions agree; no condition. -/
import Derived.Test.YtbekhijknpgbbaaQ0
import Derived.Test.YtbekhijknpgbbaaGZFnExactConstants
namespace Go.Proofs.Ytbekhijknpgbbaa.Q
open Go.RowKit Go.Proofs.Ytbekhijknpgbbaa.G Go.Proofs.YtbekhijknpgbbaaW.PrintWords Go.Proofs.YtbekhijknpgbbaaW.PrintLast Go.Proofs.YtbekhijknpgbbaaW.PrintMore
set_option linter.unusedVariables false
theorem FnExactConstants : laws_FnExactConstants.Pure := rfl
end Go.Proofs.Ytbekhijknpgbbaa.Q

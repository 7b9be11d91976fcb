/- Plain facts: substitutions that are well formed; no condition but bounds on lengths. -/
import Derived.Test.YtebamddebjehdaaQ1
import Derived.Test.YtebamddebjehdaaQ5
namespace Go.Proofs.Ytebamddebjehdaa.Q
open Go.RowKit Go.Proofs.Ytebamddebjehdaa.G Go.Proofs.YtebamddebjehdaaW.PrintWords Go.Proofs.YtebamddebjehdaaW.PrintLast Go.Proofs.YtebamddebjehdaaW.PrintMore
set_option linter.unusedVariables false
def substOk (s t : List Int) : Bool := decide (t.length = 0) || isTerm s t
def goodSubst (s : List Int) (b : List (List Int)) : Bool := goodSign s && decide (b.length = 12) && b.all (substOk s)
end Go.Proofs.Ytebamddebjehdaa.Q

/- Plain facts: marks in lists of lists; no condition but bounds on lengths. -/
import Derived.Test.YtebamddebjehdaaQM
import Derived.Test.YtebamddebjehdaaQN
namespace Go.Proofs.Ytebamddebjehdaa.Q
open Go.RowKit Go.Proofs.Ytebamddebjehdaa.G Go.Proofs.YtebamddebjehdaaW.PrintWords Go.Proofs.YtebamddebjehdaaW.PrintLast Go.Proofs.YtebamddebjehdaaW.PrintMore
set_option linter.unusedVariables false
/-- What the marks leave. -/
def msS (a : Int) : List (List Int) → List (List Int)
  | [] => []
  | x :: xs => run a x.length :: msS (a + x.length) xs
theorem msS_length : ∀ (a : Int) (l : List (List Int)), (msS a l).length = l.length
  | _, [] => rfl
  | a, x :: xs => by simp [msS, msS_length]
end Go.Proofs.Ytebamddebjehdaa.Q

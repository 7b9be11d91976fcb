/- Plain facts: marks in lists of lists; no condition but bounds on lengths. -/
import Derived.Test.YtekoaaeppndjnaaQM
import Derived.Test.YtekoaaeppndjnaaQN
namespace Go.Proofs.Ytekoaaeppndjnaa.Q
open Go.RowKit Go.Proofs.Ytekoaaeppndjnaa.G Go.Proofs.YtekoaaeppndjnaaW.PrintWords Go.Proofs.YtekoaaeppndjnaaW.PrintLast Go.Proofs.YtekoaaeppndjnaaW.PrintMore
set_option linter.unusedVariables false
/-- What the marks leave. -/
def msS (a : Int) : List (List Int) → List (List Int)
  | [] => []
  | x :: xs => run a x.length :: msS (a + x.length) xs
theorem msS_length : ∀ (a : Int) (l : List (List Int)), (msS a l).length = l.length
  | _, [] => rfl
  | a, x :: xs => by simp [msS, msS_length]
end Go.Proofs.Ytekoaaeppndjnaa.Q

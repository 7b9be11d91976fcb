/- Plain facts: marks in clauses; no condition but bounds on lengths. -/
import Derived.Test.YtmndmhijemnoeaaQM
import Derived.Test.YtmndmhijemnoeaaQL
namespace Go.Proofs.Ytmndmhijemnoeaa.Q
open Go.RowKit Go.Proofs.Ytmndmhijemnoeaa.G Go.Proofs.YtmndmhijemnoeaaW.PrintWords Go.Proofs.YtmndmhijemnoeaaW.PrintLast Go.Proofs.YtmndmhijemnoeaaW.PrintMore
set_option linter.unusedVariables false
/-- What the marks leave. -/
def mlS (a : Int) : List S58 → List S58
  | [] => []
  | x :: xs => ⟨Int.tmod a 3 == 0, run (a + 1) x.f1.length, run (a + 1 + x.f1.length) x.f2.length⟩ :: mlS (a + 1 + x.f1.length + x.f2.length) xs
end Go.Proofs.Ytmndmhijemnoeaa.Q

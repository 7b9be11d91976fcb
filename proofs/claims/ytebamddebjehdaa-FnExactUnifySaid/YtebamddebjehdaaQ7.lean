/- Plain facts: substitutions, applied: the two sides; no condition but bounds on lengths. -/
import Derived.Test.YtebamddebjehdaaQ7A
namespace Go.Proofs.Ytebamddebjehdaa.Q
open Go.RowKit Go.Proofs.Ytebamddebjehdaa.G Go.Proofs.YtebamddebjehdaaW.PrintWords Go.Proofs.YtebamddebjehdaaW.PrintLast Go.Proofs.YtebamddebjehdaaW.PrintMore
set_option linter.unusedVariables false
def ApplyV (s : List Int) (b : List (List Int)) (t : List Int) : List Int × Bool := if goodSubst s b = true ∧ isTerm s t = true then appliedV b t else ([], false)
theorem ApplyV_len (s : List Int) (b : List (List Int)) (t : List Int) : (ApplyV s b t).1.length ≤ 40 := by
  unfold ApplyV appliedV
  split
  · split
    · assumption
    · simp
  · simp
end Go.Proofs.Ytebamddebjehdaa.Q

/- Plain facts: sizes of lists of lists, in one form; no condition but bounds on lengths. -/
import Derived.Test.YtbekhijknpgbbaaQ5
import Derived.Test.YtbekhijknpgbbaaQSZ
import Derived.Test.YtbekhijknpgbbaaGH13
namespace Go.Proofs.Ytbekhijknpgbbaa.Q
open Go.RowKit Go.Proofs.Ytbekhijknpgbbaa.G Go.Proofs.YtbekhijknpgbbaaW.PrintWords Go.Proofs.YtbekhijknpgbbaaW.PrintLast Go.Proofs.YtbekhijknpgbbaaW.PrintMore
set_option linter.unusedVariables false
theorem szIntSS_z (x : List (List Int)) (a : Int) (ha : 0 ≤ a) (hb : a ≤ 1048576) (hx : x.length ≤ 140737488351232) (hxs : ∀ t ∈ x, t.length ≤ 140737488351232) :
    ∃ z : Int, Ev (fun k => laws_szIntSS.f k x a) z ∧ (¬ z < 0 → (x.length : Int) + (sumLen x : Int) + z = a) := by
  obtain ⟨z, h1, h2, h3⟩ := szIntSS_ev x a ha hb hx hxs
  exact ⟨z, h1, fun h => h3 (by omega)⟩
end Go.Proofs.Ytbekhijknpgbbaa.Q

/- Plain facts: Apply of the two sides comes to one value; no condition but bounds on lengths. -/
import Derived.Test.YtbekhijknpgbbaaQ7
import Derived.Test.YtbekhijknpgbbaaGH27
import Derived.Test.YtbekhijknpgbbaaGH31
namespace Go.Proofs.Ytbekhijknpgbbaa.Q
open Go.RowKit Go.Proofs.Ytbekhijknpgbbaa.G Go.Proofs.YtbekhijknpgbbaaW.PrintWords Go.Proofs.YtbekhijknpgbbaaW.PrintLast Go.Proofs.YtbekhijknpgbbaaW.PrintMore
theorem Apply_both (s : List Int) (b : List (List Int)) (t : List Int) (hl : s.length ≤ 140737488351232) (hb : b.length + sumLen b ≤ 1048576) (ht : t.length ≤ 140737488351232) :
    ∃ V : List Int × Bool, V.1.length ≤ 40 ∧ Ev (fun k => spec_Apply.f k s b t) V ∧ Ev (fun k => impl_Apply.f k s b t) V :=
  ⟨_, ApplyV_len s b t, spec_Apply_ev s b t hl hb ht, impl_Apply_ev s b t hl hb ht⟩
end Go.Proofs.Ytbekhijknpgbbaa.Q

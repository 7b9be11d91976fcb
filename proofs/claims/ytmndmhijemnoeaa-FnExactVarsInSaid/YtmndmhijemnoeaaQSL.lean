/- Plain facts: sizes of clauses, in one form; no condition but bounds on lengths. -/
import Derived.Test.YtmndmhijemnoeaaQL
import Derived.Test.YtmndmhijemnoeaaQSZ
import Derived.Test.YtmndmhijemnoeaaGH1
namespace Go.Proofs.Ytmndmhijemnoeaa.Q
open Go.RowKit Go.Proofs.Ytmndmhijemnoeaa.G Go.Proofs.YtmndmhijemnoeaaW.PrintWords Go.Proofs.YtmndmhijemnoeaaW.PrintLast Go.Proofs.YtmndmhijemnoeaaW.PrintMore
set_option linter.unusedVariables false
theorem szLitS_z (x : List S55) (a : Int) (ha : 0 ≤ a) (hb : a ≤ 1048576) (hx : x.length ≤ 140737488351232) (hxs : ∀ t ∈ x, t.f1.length ≤ 140737488351232 ∧ t.f2.length ≤ 140737488351232) :
    ∃ z : Int, Ev (fun k => laws_szLitS.f k x a) z ∧ (¬ z < 0 → ((x.map cvt).length : Int) + (sumLit (x.map cvt) : Int) + z = a) := by
  obtain ⟨z, h1, h2, h3⟩ := szLitS_ev x a ha hb hx hxs
  exact ⟨z, h1, fun h => h3 (by omega)⟩
end Go.Proofs.Ytmndmhijemnoeaa.Q

/- Plain facts: the question whether a list is a term over a signature; no condition but bounds on lengths. -/
import Derived.Test.YtebamddebjehdaaQ1
import Derived.Test.YtebamddebjehdaaGH4
import Derived.Test.YtebamddebjehdaaGH6
namespace Go.Proofs.Ytebamddebjehdaa.Q
open Go.RowKit Go.Proofs.Ytebamddebjehdaa.G Go.Proofs.YtebamddebjehdaaW.PrintWords Go.Proofs.YtebamddebjehdaaW.PrintLast Go.Proofs.YtebamddebjehdaaW.PrintMore
set_option linter.unusedVariables false
theorem spec_GoodTerm_ev (s t : List Int) (hl : s.length ≤ 140737488351232) (ht : t.length ≤ 140737488351232) : Ev (fun k => spec_GoodTerm.f k s t) (goodTerm s t) := by
  unfold spec_GoodTerm.f goodTerm
  refine Ev.bind (spec_GoodSign_ev s hl) ?_
  cases h : goodSign s with
  | true => exact ev_pos rfl (Ev.bind (spec_Term_ev s t (goodSign_len h).2.2.1 hl ht) (ev_some (by simp)))
  | false => exact ev_neg (by simp) (ev_some (by simp))
theorem impl_GoodTerm_ev (s t : List Int) (hl : s.length ≤ 140737488351232) (ht : t.length ≤ 140737488351232) : Ev (fun k => impl_GoodTerm.f k s t) (goodTerm s t) := by
  unfold impl_GoodTerm.f goodTerm
  refine Ev.bind (impl_GoodSign_ev s hl) ?_
  cases h : goodSign s with
  | true => exact ev_pos rfl (Ev.bind (impl_Term_ev s t (goodSign_len h).2.2.1 hl ht) (ev_some (by simp)))
  | false => exact ev_neg (by simp) (ev_some (by simp))
end Go.Proofs.Ytebamddebjehdaa.Q

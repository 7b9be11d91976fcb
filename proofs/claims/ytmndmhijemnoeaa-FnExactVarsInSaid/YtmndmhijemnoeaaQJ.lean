/- Plain facts: the question whether a clause is well formed; no condition but bounds on lengths. -/
import Derived.Test.YtmndmhijemnoeaaQK
import Derived.Test.YtmndmhijemnoeaaGH6
import Derived.Test.YtmndmhijemnoeaaGH8
namespace Go.Proofs.Ytmndmhijemnoeaa.Q
open Go.RowKit Go.Proofs.Ytmndmhijemnoeaa.G Go.Proofs.YtmndmhijemnoeaaW.PrintWords Go.Proofs.YtmndmhijemnoeaaW.PrintLast Go.Proofs.YtmndmhijemnoeaaW.PrintMore
set_option linter.unusedVariables false
theorem spec_GoodClause_ev (s : List Int) (x : List S58) (hl : s.length ≤ 140737488351232) (hx : x.length + sumLit x ≤ 1048576) : Ev (fun k => spec_GoodClause.f k s x) (goodClause s x) := by
  unfold spec_GoodClause.f goodClause
  refine Ev.bind (spec_GoodSign_ev s hl) ?_
  cases h : goodSign s with
  | false => exact ev_neg (by simp) (ev_some rfl)
  | true => exact ev_pos rfl (Ev.bind (spec_l4Clause_ev s (goodSign_len h).2.2.1 hl x hx) (ev_some (by simp)))
theorem impl_GoodClause_ev (s : List Int) (x : List S58) (hl : s.length ≤ 140737488351232) (hx : x.length + sumLit x ≤ 1048576) : Ev (fun k => impl_GoodClause.f k s x) (goodClause s x) := by
  unfold impl_GoodClause.f goodClause
  refine Ev.bind (impl_GoodSign_ev s hl) ?_
  cases h : goodSign s with
  | false => exact ev_neg (by simp) (ev_some rfl)
  | true => exact ev_pos rfl (Ev.bind (impl_isClause_ev s x (goodSign_len h).2.2.1 hl hx) (ev_some (by simp)))
end Go.Proofs.Ytmndmhijemnoeaa.Q

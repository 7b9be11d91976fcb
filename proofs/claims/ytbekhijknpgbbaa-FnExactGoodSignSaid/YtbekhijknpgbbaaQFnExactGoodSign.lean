/- The pure statement of the law FnExactGoodSign: for all arguments the two functions agree; no condition. -/
import Derived.Test.YtbekhijknpgbbaaQ2
import Derived.Test.YtbekhijknpgbbaaGZFnExactGoodSign
namespace Go.Proofs.Ytbekhijknpgbbaa.Q
open Go.RowKit Go.Proofs.Ytbekhijknpgbbaa.G Go.Proofs.YtbekhijknpgbbaaW.PrintWords Go.Proofs.YtbekhijknpgbbaaW.PrintLast Go.Proofs.YtbekhijknpgbbaaW.PrintMore
set_option linter.unusedVariables false
theorem FnExactGoodSign : laws_FnExactGoodSign.Pure := by
  intro s hs
  have hs1 : s.length ≤ 17592186043904 := by have := hs.2.1; omega
  refine Ev.rounds (g := fun k => laws_FnExactGoodSign.f k s) ?_
  unfold laws_FnExactGoodSign.f
  refine ev_bind1 (szSign_eq s 1048576 (by omega) (by omega) (by omega)) ?_
  by_cases hbig : (1048576 : Int) < (s.length : Int)
  · rw [if_pos hbig]; exact ev_pos (by omega) (Ev.now _)
  rw [if_neg hbig]
  refine ev_neg (by omega) ?_
  refine Ev.bind (toSign_ev s (by omega)) (Ev.bind (spec_GoodSign_ev s (by omega)) (Ev.bind (toSign_ev s (by omega)) (Ev.bind (impl_GoodSign_ev s (by omega)) ?_)))
  refine ev_neg (by simp) (Ev.bind (toSign_ev s (by omega)) (Ev.bind (eqSign_self s (by omega)) (ev_pos rfl (Ev.now _))))
end Go.Proofs.Ytbekhijknpgbbaa.Q

/- The pure statement of the law FnExactLeastGround: for all arguments the two functions agree; no condition. -/
import Derived.Test.YtbekhijknpgbbaaQ3
import Derived.Test.YtbekhijknpgbbaaGZFnExactLeastGround
namespace Go.Proofs.Ytbekhijknpgbbaa.Q
open Go.RowKit Go.Proofs.Ytbekhijknpgbbaa.G Go.Proofs.YtbekhijknpgbbaaW.PrintWords Go.Proofs.YtbekhijknpgbbaaW.PrintLast Go.Proofs.YtbekhijknpgbbaaW.PrintMore
set_option linter.unusedVariables false
theorem FnExactLeastGround : laws_FnExactLeastGround.Pure := by
  intro s  hs
  have hs1 : s.length ≤ 17592186043904 := by have := hs.2.1; omega
  refine Ev.rounds (g := fun k => laws_FnExactLeastGround.f k s ) ?_
  unfold laws_FnExactLeastGround.f
  refine ev_bind1 (szSign_eq s 1048576 (by omega) (by omega) (by omega)) ?_
  by_cases hbig : (1048576 : Int) < (s.length : Int)
  · rw [if_pos hbig]; exact ev_pos (by omega) (Ev.now _)
  rw [if_neg hbig]
  refine ev_neg (by omega) ?_
  obtain ⟨V, hV, hS, hI⟩ := LeastGround_both s  (by omega)
  refine Ev.bind (toSign_ev s (by omega)) (Ev.bind hS (Ev.bind (toSign_ev s (by omega)) (Ev.bind hI (Ev.bind (eqIntS_self V.1 (by omega)) (ev_pos rfl ?_)))))
  refine Ev.step (fun k => by rw [laws_FnExactLeastGround.j0]) (ev_neg (by simp) (Ev.bind (toSign_ev s (by omega)) (Ev.bind (eqSign_self s (by omega)) (ev_pos rfl (?_)))))
  refine Ev.bind (markSign_ev s 1 (by omega) (by omega)) ?_
  refine ev_neg (by omega) ?_
  refine Ev.bind (eqIntS_self V.1 (by omega)) (ev_pos rfl ?_)
  refine Ev.step (fun k => by rw [laws_FnExactLeastGround.j1]) (ev_neg (by simp) ?_)
  refine Ev.bind (markIntS_ev V.1 1 (by omega) (by omega)) ?_
  refine Ev.bind (heldIntS_ev V.1.length 1 (by omega) (by omega)) ?_
  refine ev_neg (by omega) ?_
  refine ev_pos rfl ?_
  refine Ev.bind (toSign_ev s (by omega)) (Ev.bind hI (Ev.bind (eqIntS_self V.1 (by omega)) (ev_pos rfl ?_)))
  refine Ev.step (fun k => by rw [laws_FnExactLeastGround.j2]) (ev_neg (by simp) ?_)
  refine Ev.bind (heldIntS_ev V.1.length 1 (by omega) (by omega)) ?_
  refine ev_neg (by omega) ?_
  exact ev_pos rfl (Ev.now _)
end Go.Proofs.Ytbekhijknpgbbaa.Q

/- The pure statement of the law FnExactWeighsMore: for all arguments the two functions agree; no condition. -/
import Derived.Test.YtbekhijknpgbbaaQ4
import Derived.Test.YtbekhijknpgbbaaGZFnExactWeighsMore
namespace Go.Proofs.Ytbekhijknpgbbaa.Q
open Go.RowKit Go.Proofs.Ytbekhijknpgbbaa.G Go.Proofs.YtbekhijknpgbbaaW.PrintWords Go.Proofs.YtbekhijknpgbbaaW.PrintLast Go.Proofs.YtbekhijknpgbbaaW.PrintMore
set_option linter.unusedVariables false
theorem FnExactWeighsMore : laws_FnExactWeighsMore.Pure := by
  intro s t1 t2 hs ht1 ht2
  have hs1 : s.length ≤ 17592186043904 := by have := hs.2.1; omega
  have ht11 : t1.length ≤ 17592186043904 := by have := ht1.2.1; omega
  have ht21 : t2.length ≤ 17592186043904 := by have := ht2.2.1; omega
  refine Ev.rounds (g := fun k => laws_FnExactWeighsMore.f k s t1 t2) ?_
  unfold laws_FnExactWeighsMore.f
  by_cases hbigt1 : (t1.length : Int) > 1048576
  · exact ev_pos hbigt1 (Ev.now _)
  refine ev_neg hbigt1 ?_
  by_cases hbigt2 : (t2.length : Int) > 1048576
  · exact ev_pos hbigt2 (Ev.now _)
  refine ev_neg hbigt2 ?_
  refine ev_bind1 (szSign_eq s 1048576 (by omega) (by omega) (by omega)) ?_
  by_cases hbig : (1048576 : Int) < (s.length : Int)
  · rw [if_pos hbig]; exact ev_pos (by omega) (Ev.now _)
  rw [if_neg hbig]
  refine ev_neg (by omega) ?_
  obtain ⟨V, hS, hI⟩ := WeighsMore_both s t1 t2 (by omega) (by omega) (by omega)
  refine Ev.bind (toSign_ev s (by omega)) (Ev.bind (toIntS_ev t1 (by omega)) (Ev.bind (toIntS_ev t2 (by omega)) (Ev.bind hS (Ev.bind (toSign_ev s (by omega)) (Ev.bind (toIntS_ev t1 (by omega)) (Ev.bind (toIntS_ev t2 (by omega)) (Ev.bind hI ?_)))))))
  refine ev_neg (by simp) (Ev.step (fun k => by rw [laws_FnExactWeighsMore.j0]) (ev_neg (by simp) (Ev.bind (toSign_ev s (by omega)) (Ev.bind (eqSign_self s (by omega)) (ev_pos rfl (Ev.bind (toIntS_ev t1 (by omega)) (Ev.bind (eqIntS_self t1 (by omega)) (ev_pos rfl (Ev.bind (toIntS_ev t2 (by omega)) (Ev.bind (eqIntS_self t2 (by omega)) (ev_pos rfl (Ev.now _))))))))))))
end Go.Proofs.Ytbekhijknpgbbaa.Q

/- The pure statement of the law FnExactArgsAt: for all arguments the two functions agree; no condition. -/
import Derived.Test.YtbekhijknpgbbaaQ3
import Derived.Test.YtbekhijknpgbbaaGZFnExactArgsAt
namespace Go.Proofs.Ytbekhijknpgbbaa.Q
open Go.RowKit Go.Proofs.Ytbekhijknpgbbaa.G Go.Proofs.YtbekhijknpgbbaaW.PrintWords Go.Proofs.YtbekhijknpgbbaaW.PrintLast Go.Proofs.YtbekhijknpgbbaaW.PrintMore
set_option linter.unusedVariables false
theorem FnExactArgsAt : laws_FnExactArgsAt.Pure := by
  intro s t1 n2 hs ht1 hn2
  have hs1 : s.length ≤ 17592186043904 := by have := hs.2.1; omega
  have ht11 : t1.length ≤ 17592186043904 := by have := ht1.2.1; omega
  refine Ev.rounds (g := fun k => laws_FnExactArgsAt.f k s t1 n2) ?_
  unfold laws_FnExactArgsAt.f
  by_cases hbigt1 : (t1.length : Int) > 1048576
  · exact ev_pos hbigt1 (Ev.now _)
  refine ev_neg hbigt1 ?_
  refine ev_bind1 (szSign_eq s 1048576 (by omega) (by omega) (by omega)) ?_
  by_cases hbig : (1048576 : Int) < (s.length : Int)
  · rw [if_pos hbig]; exact ev_pos (by omega) (Ev.now _)
  rw [if_neg hbig]
  refine ev_neg (by omega) ?_
  obtain ⟨V, hV, hS, hI⟩ := ArgsAt_both s t1 n2 (by omega) (by omega)
  refine Ev.bind (toSign_ev s (by omega)) (Ev.bind (toIntS_ev t1 (by omega)) (Ev.bind hS (Ev.bind (toSign_ev s (by omega)) (Ev.bind (toIntS_ev t1 (by omega)) (Ev.bind hI (Ev.bind (eqIntS_self V.1 (by omega)) (ev_pos rfl ?_)))))))
  refine Ev.step (fun k => by rw [laws_FnExactArgsAt.j0]) (ev_neg (by simp) (Ev.bind (toSign_ev s (by omega)) (Ev.bind (eqSign_self s (by omega)) (ev_pos rfl (Ev.bind (toIntS_ev t1 (by omega)) (Ev.bind (eqIntS_self t1 (by omega)) (ev_pos rfl (?_))))))))
  refine Ev.bind (markSign_ev s 1 (by omega) (by omega)) ?_
  refine Ev.bind (markIntS_ev t1 (1 + (s.length : Int)) (by omega) (by omega)) ?_
  refine ev_neg (by omega) ?_
  refine Ev.bind (eqIntS_self V.1 (by omega)) (ev_pos rfl ?_)
  refine Ev.step (fun k => by rw [laws_FnExactArgsAt.j1]) (ev_neg (by simp) ?_)
  refine Ev.bind (markIntS_ev V.1 1 (by omega) (by omega)) ?_
  refine Ev.bind (heldIntS_ev V.1.length 1 (by omega) (by omega)) ?_
  refine ev_neg (by omega) ?_
  refine ev_pos rfl ?_
  refine Ev.bind (toSign_ev s (by omega)) (Ev.bind (toIntS_ev t1 (by omega)) (Ev.bind hI (Ev.bind (eqIntS_self V.1 (by omega)) (ev_pos rfl ?_))))
  refine Ev.step (fun k => by rw [laws_FnExactArgsAt.j2]) (ev_neg (by simp) ?_)
  refine Ev.bind (heldIntS_ev V.1.length 1 (by omega) (by omega)) ?_
  refine ev_neg (by omega) ?_
  exact ev_pos rfl (Ev.now _)
end Go.Proofs.Ytbekhijknpgbbaa.Q

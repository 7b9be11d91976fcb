/- The pure statement of the law FnExactGoodSubst: for all arguments the two functions agree; no condition. -/
import Derived.Test.YtbekhijknpgbbaaQ6
import Derived.Test.YtbekhijknpgbbaaGZFnExactGoodSubst
namespace Go.Proofs.Ytbekhijknpgbbaa.Q
open Go.RowKit Go.Proofs.Ytbekhijknpgbbaa.G Go.Proofs.YtbekhijknpgbbaaW.PrintWords Go.Proofs.YtbekhijknpgbbaaW.PrintLast Go.Proofs.YtbekhijknpgbbaaW.PrintMore
set_option linter.unusedVariables false
theorem FnExactGoodSubst : laws_FnExactGoodSubst.Pure := by
  intro s b1 hs hb1
  have hs1 : s.length ≤ 17592186043904 := by have := hs.2.1; omega
  have hb11 : b1.length ≤ 17592186043904 := by have := hb1.2.1; omega
  refine Ev.rounds (g := fun k => laws_FnExactGoodSubst.f k s b1) ?_
  unfold laws_FnExactGoodSubst.f
  refine ev_bind1 (szSign_eq s 1048576 (by omega) (by omega) (by omega)) ?_
  by_cases hbig : (1048576 : Int) < (s.length : Int)
  · rw [if_pos hbig]; exact ev_pos (by omega) (Ev.now _)
  rw [if_neg hbig]
  refine ev_neg (by omega) ?_
  obtain ⟨zb1, hzb1, hzb12, hwb1⟩ := szIntSS_ev b1 (1048576 - (s.length : Int)) (by omega) (by omega) (by omega) (fun x hx => by have := (hb1.2.2 x hx).2.1; omega)
  refine Ev.bind hzb1 ?_
  by_cases hnegb1 : zb1 < 0
  · exact ev_pos hnegb1 (Ev.now _)
  refine ev_neg hnegb1 ?_
  have hwb1' : (b1.length : Int) + (sumLen b1 : Int) + zb1 = (1048576 - (s.length : Int)) := hwb1 (by omega)
  have hwb12 : b1.length + sumLen b1 ≤ 1048576 := by omega
  obtain ⟨V, hS, hI⟩ := GoodSubst_both s b1 (by omega) (by omega)
  refine Ev.bind (toSign_ev s (by omega)) (Ev.bind (toIntSS_ev b1 (by omega)) (Ev.bind hS (Ev.bind (toSign_ev s (by omega)) (Ev.bind (toIntSS_ev b1 (by omega)) (Ev.bind hI ?_)))))
  refine ev_neg (by simp) (Ev.bind (toSign_ev s (by omega)) (Ev.bind (eqSign_self s (by omega)) (ev_pos rfl (Ev.bind (toIntSS_ev b1 (by omega)) (Ev.bind (eqIntSS_self b1 (by omega)) (ev_pos rfl (Ev.now _)))))))
end Go.Proofs.Ytbekhijknpgbbaa.Q

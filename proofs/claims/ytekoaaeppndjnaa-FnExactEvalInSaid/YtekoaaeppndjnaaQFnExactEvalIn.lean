/- The pure statement of the law FnExactEvalIn: for all arguments the two functions agree; no condition. -/
import Derived.Test.YtekoaaeppndjnaaQZ
import Derived.Test.YtekoaaeppndjnaaGZFnExactEvalIn
import Derived.Test.YtekoaaeppndjnaaGH15
import Derived.Test.YtekoaaeppndjnaaGH18
namespace Go.Proofs.Ytekoaaeppndjnaa.Q
open Go.RowKit Go.Proofs.Ytekoaaeppndjnaa.G Go.Proofs.YtekoaaeppndjnaaW.PrintWords Go.Proofs.YtekoaaeppndjnaaW.PrintLast Go.Proofs.YtekoaaeppndjnaaW.PrintMore
set_option linter.unusedVariables false
theorem EvalIn_both (s : List Int) (n : Int) (x : List (List Int)) (t env : List Int) (hl : s.length ≤ 140737488351232) (hx : x.length + sumLen x ≤ 1048576) (ht : t.length ≤ 140737488351232) (he : env.length ≤ 140737488351232) : ∃ V : Int × Bool, Ev (fun k => spec_EvalIn.f k s n x t env) V ∧ Ev (fun k => impl_EvalIn.f k s n x t env) V := by
  unfold spec_EvalIn.f impl_EvalIn.f
  cases h : goodWorld s n x with
  | false => exact ⟨(0, false), Ev.bind (spec_GoodWorld_ev s n x hl hx) (ev_neg (by simp [h]) (Ev.now _)), Ev.bind (impl_GoodWorld_ev s n x hl hx) (ev_neg (by simp [h]) (Ev.now _))⟩
  | true =>
    obtain ⟨g1, g2, g3, g4, g5⟩ := goodWorld_parts h
    have hs := (goodSign_len g1).2.2.1
    cases h2 : isTerm s t with
    | false => exact ⟨(0, false), Ev.bind (spec_GoodWorld_ev s n x hl hx) (ev_pos h (Ev.bind (spec_Term_ev s t hs hl ht) (ev_neg (by simp [h2]) (Ev.now _)))), Ev.bind (impl_GoodWorld_ev s n x hl hx) (ev_pos h (Ev.bind (impl_Term_ev s t hs hl ht) (ev_neg (by simp [h2]) (Ev.now _))))⟩
    | true =>
      have h2' := h2
      unfold isTerm at h2'
      simp only [Bool.and_eq_true, decide_eq_true_eq] at h2'
      cases h3 : envOk n env with
      | false => exact ⟨(0, false), Ev.bind (spec_GoodWorld_ev s n x hl hx) (ev_pos h (Ev.bind (spec_Term_ev s t hs hl ht) (ev_pos h2 (Ev.bind (spec_Env_ev n x env g2 g3 he) (ev_neg (by simp [h3]) (Ev.now _)))))), Ev.bind (impl_GoodWorld_ev s n x hl hx) (ev_pos h (Ev.bind (impl_Term_ev s t hs hl ht) (ev_pos h2 (Ev.bind (impl_Env_ev n x env he) (ev_neg (by simp [h3]) (Ev.now _))))))⟩
      | true =>
        obtain ⟨k1, k2⟩ := envOk_parts h3
        obtain ⟨v, e1, e2⟩ := value_both t hs hl g2 g3 g4 g5 k1 k2 (by omega) h2'.2
        exact ⟨(v, true), Ev.bind (spec_GoodWorld_ev s n x hl hx) (ev_pos h (Ev.bind (spec_Term_ev s t hs hl ht) (ev_pos h2 (Ev.bind (spec_Env_ev n x env g2 g3 he) (ev_pos h3 (Ev.bind e1 (Ev.now _))))))), Ev.bind (impl_GoodWorld_ev s n x hl hx) (ev_pos h (Ev.bind (impl_Term_ev s t hs hl ht) (ev_pos h2 (Ev.bind (impl_Env_ev n x env he) (ev_pos h3 (Ev.bind e2 (Ev.now _)))))))⟩
theorem FnExactEvalIn : laws_FnExactEvalIn.Pure := by
  intro s w1n w1 t2 t3 hs hw1n hw1 ht2 ht3
  have hs1 : s.length ≤ 17592186043904 := by have := hs.2.1; omega
  have hw11 : w1.length ≤ 17592186043904 := by have := hw1.2.1; omega
  have ht21 : t2.length ≤ 17592186043904 := by have := ht2.2.1; omega
  have ht31 : t3.length ≤ 17592186043904 := by have := ht3.2.1; omega
  refine Ev.rounds (g := fun k => laws_FnExactEvalIn.f k s w1n w1 t2 t3) ?_
  unfold laws_FnExactEvalIn.f
  by_cases hbigt2 : (t2.length : Int) > 1048576
  · exact ev_pos hbigt2 (Ev.now _)
  refine ev_neg hbigt2 ?_
  by_cases hbigt3 : (t3.length : Int) > 1048576
  · exact ev_pos hbigt3 (Ev.now _)
  refine ev_neg hbigt3 ?_
  refine ev_bind1 (szSign_eq s 1048576 (by omega) (by omega) (by omega)) ?_
  by_cases hbig : (1048576 : Int) < (s.length : Int)
  · rw [if_pos hbig]; exact ev_pos (by omega) (Ev.now _)
  rw [if_neg hbig]
  refine ev_neg (by omega) ?_
  obtain ⟨zw1, hzw1, hzw12, hww1⟩ := szWorld_ev w1n w1 (1048576 - (s.length : Int)) (by omega) (by omega) (by omega) (fun x hx => by have := (hw1.2.2 x hx).2.1; omega)
  refine Ev.bind hzw1 ?_
  by_cases hnegw1 : zw1 < 0
  · exact ev_pos hnegw1 (Ev.now _)
  refine ev_neg hnegw1 ?_
  have hww1' : (w1.length : Int) + (sumLen w1 : Int) + zw1 = (1048576 - (s.length : Int)) := hww1 (by omega)
  have hww12 : w1.length + sumLen w1 ≤ 1048576 := by omega
  obtain ⟨V, hS, hI⟩ := EvalIn_both s w1n w1 t2 t3 (by omega) (by omega) (by omega) (by omega)
  refine Ev.bind (toSign_ev s (by omega)) (Ev.bind (toWorld_ev w1n w1 (by omega)) (Ev.bind (toIntS_ev t2 (by omega)) (Ev.bind (toIntS_ev t3 (by omega)) (Ev.bind hS (Ev.bind (toSign_ev s (by omega)) (Ev.bind (toWorld_ev w1n w1 (by omega)) (Ev.bind (toIntS_ev t2 (by omega)) (Ev.bind (toIntS_ev t3 (by omega)) (Ev.bind hI ?_)))))))))
  refine ev_pos rfl (Ev.step (fun k => by rw [laws_FnExactEvalIn.j0]) (ev_neg (by simp) (Ev.bind (toSign_ev s (by omega)) (Ev.bind (eqSign_self s (by omega)) (ev_pos rfl (Ev.bind (toWorld_ev w1n w1 (by omega)) (Ev.bind (eqWorld_self w1n w1 (by omega)) (ev_pos rfl (Ev.bind (toIntS_ev t2 (by omega)) (Ev.bind (eqIntS_self t2 (by omega)) (ev_pos rfl (Ev.bind (toIntS_ev t3 (by omega)) (Ev.bind (eqIntS_self t3 (by omega)) (ev_pos rfl (Ev.now _)))))))))))))))
end Go.Proofs.Ytekoaaeppndjnaa.Q

/- The pure statement of the law FnExactCompareTerms: for all arguments the two functions agree; no condition. -/
import Derived.Test.YtbekhijknpgbbaaQ8
import Derived.Test.YtbekhijknpgbbaaGZFnExactCompareTerms
import Derived.Test.YtbekhijknpgbbaaGH33
import Derived.Test.YtbekhijknpgbbaaGH35
namespace Go.Proofs.Ytbekhijknpgbbaa.Q
open Go.RowKit Go.Proofs.Ytbekhijknpgbbaa.G Go.Proofs.YtbekhijknpgbbaaW.PrintWords Go.Proofs.YtbekhijknpgbbaaW.PrintLast Go.Proofs.YtbekhijknpgbbaaW.PrintMore
set_option linter.unusedVariables false
theorem CompareTerms_both (s a b : List Int) (hl : s.length ≤ 140737488351232) (ha : a.length ≤ 140737488351232) (hb : b.length ≤ 140737488351232) : ∃ V : Int × Bool, Ev (fun k => spec_CompareTerms.f k s a b) V ∧ Ev (fun k => impl_CompareTerms.f k s a b) V := by
  unfold spec_CompareTerms.f impl_CompareTerms.f
  cases h : goodTerm s a with
  | false => exact ⟨(0, false), Ev.bind (spec_GoodTerm_ev s a hl ha) (ev_neg (by simp [h]) (Ev.now _)), Ev.bind (impl_GoodTerm_ev s a hl ha) (ev_neg (by simp [h]) (Ev.now _))⟩
  | true =>
    obtain ⟨h1, h2, h3⟩ := goodTerm_parts h
    have hs := (goodSign_len h1).2.2.1
    cases hb2 : isTerm s b with
    | false => exact ⟨(0, false), Ev.bind (spec_GoodTerm_ev s a hl ha) (ev_pos h (Ev.bind (spec_Term_ev s b hs hl hb) (ev_neg (by simp [hb2]) (Ev.now _)))), Ev.bind (impl_GoodTerm_ev s a hl ha) (ev_pos h (Ev.bind (impl_Term_ev s b hs hl hb) (ev_neg (by simp [hb2]) (Ev.now _))))⟩
    | true =>
      obtain ⟨q1, q2, q3⟩ := isTerm_parts hb2
      exact ⟨(cmp a b, true), Ev.bind (spec_GoodTerm_ev s a hl ha) (ev_pos h (Ev.bind (spec_Term_ev s b hs hl hb) (ev_pos hb2 (Ev.bind (spec_Compare_ev a b (by omega) (by omega) (term_low h3) (term_low q2)) (Ev.now _))))), Ev.bind (impl_GoodTerm_ev s a hl ha) (ev_pos h (Ev.bind (impl_Term_ev s b hs hl hb) (ev_pos hb2 (Ev.bind (impl_Compare_ev a b (by omega) (by omega)) (Ev.now _)))))⟩
theorem FnExactCompareTerms : laws_FnExactCompareTerms.Pure := by
  intro s t1 t2 hs ht1 ht2
  have hs1 : s.length ≤ 17592186043904 := by have := hs.2.1; omega
  have ht11 : t1.length ≤ 17592186043904 := by have := ht1.2.1; omega
  have ht21 : t2.length ≤ 17592186043904 := by have := ht2.2.1; omega
  refine Ev.rounds (g := fun k => laws_FnExactCompareTerms.f k s t1 t2) ?_
  unfold laws_FnExactCompareTerms.f
  by_cases hbigt1 : (t1.length : Int) > 1048576
  · exact ev_pos hbigt1 (Ev.now _)
  refine ev_neg hbigt1 ?_
  by_cases hbigt2 : (t2.length : Int) > 1048576
  · exact ev_pos hbigt2 (Ev.now _)
  refine ev_neg hbigt2 ?_
  refine ev_bind1 (szSign_eq s 1048576 (by omega) (by omega) (by omega)) ?_
  by_cases hbig : (1048576 : Int) < (s.length : Int)
  · rw [if_pos hbig]; exact ev_pos (by omega) (Ev.now _)
  rw [if_neg hbig]
  refine ev_neg (by omega) ?_
  obtain ⟨V, hS, hI⟩ := CompareTerms_both s t1 t2 (by omega) (by omega) (by omega)
  refine Ev.bind (toSign_ev s (by omega)) (Ev.bind (toIntS_ev t1 (by omega)) (Ev.bind (toIntS_ev t2 (by omega)) (Ev.bind hS (Ev.bind (toSign_ev s (by omega)) (Ev.bind (toIntS_ev t1 (by omega)) (Ev.bind (toIntS_ev t2 (by omega)) (Ev.bind hI ?_)))))))
  refine ev_pos rfl (Ev.step (fun k => by rw [laws_FnExactCompareTerms.j0]) (ev_neg (by simp) (Ev.bind (toSign_ev s (by omega)) (Ev.bind (eqSign_self s (by omega)) (ev_pos rfl (Ev.bind (toIntS_ev t1 (by omega)) (Ev.bind (eqIntS_self t1 (by omega)) (ev_pos rfl (Ev.bind (toIntS_ev t2 (by omega)) (Ev.bind (eqIntS_self t2 (by omega)) (ev_pos rfl (Ev.now _))))))))))))
end Go.Proofs.Ytbekhijknpgbbaa.Q

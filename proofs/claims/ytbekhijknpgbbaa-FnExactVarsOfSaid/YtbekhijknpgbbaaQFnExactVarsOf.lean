/- The pure statement of the law FnExactVarsOf: for all arguments the two functions agree; no condition. -/
import Derived.Test.YtbekhijknpgbbaaQI
import Derived.Test.YtbekhijknpgbbaaGZFnExactVarsOf
import Derived.Test.YtbekhijknpgbbaaGH25
import Derived.Test.YtbekhijknpgbbaaGH26
namespace Go.Proofs.Ytbekhijknpgbbaa.Q
open Go.RowKit Go.Proofs.Ytbekhijknpgbbaa.G Go.Proofs.YtbekhijknpgbbaaW.PrintWords Go.Proofs.YtbekhijknpgbbaaW.PrintLast Go.Proofs.YtbekhijknpgbbaaW.PrintMore
set_option linter.unusedVariables false
theorem VarsOf_both (s t : List Int) (hl : s.length ≤ 140737488351232) (ht : t.length ≤ 140737488351232) : ∃ V : List Int × Bool, V.1.length ≤ 4096 ∧ Ev (fun k => spec_VarsOf.f k s t) V ∧ Ev (fun k => impl_VarsOf.f k s t) V := by
  cases h : goodTerm s t with
  | true =>
    obtain ⟨h1, h2, h3⟩ := goodTerm_parts h
    have hlow := term_low h3
    refine ⟨(vars1 t, true), ?_, ?_, ?_⟩
    · rw [vars_same t hlow]; have := numsFrom_length (hasIn [t]) 12 0; unfold varsM; simp only; omega
    · unfold spec_VarsOf.f
      exact Ev.bind (spec_GoodTerm_ev s t hl ht) (ev_pos h (Ev.bind (Vars_ev t (by omega) (fun n hn => by have := hlow n hn; omega)) (Ev.now _)))
    · unfold impl_VarsOf.f
      refine Ev.bind (impl_GoodTerm_ev s t hl ht) (ev_pos h (Ev.bind (varsIn_ev [t] (by simp) (fun x hx => by rw [List.mem_singleton.1 hx]; exact ht)) (ev_some ?_)))
      rw [vars_same t hlow]
  | false =>
    refine ⟨([], false), by simp, ?_, ?_⟩
    · unfold spec_VarsOf.f
      exact Ev.bind (spec_GoodTerm_ev s t hl ht) (ev_neg (by simp [h]) (Ev.now _))
    · unfold impl_VarsOf.f
      exact Ev.bind (impl_GoodTerm_ev s t hl ht) (ev_neg (by simp [h]) (Ev.now _))

theorem FnExactVarsOf : laws_FnExactVarsOf.Pure := by
  intro s t1 hs ht1
  have hs1 : s.length ≤ 17592186043904 := by have := hs.2.1; omega
  have ht11 : t1.length ≤ 17592186043904 := by have := ht1.2.1; omega
  refine Ev.rounds (g := fun k => laws_FnExactVarsOf.f k s t1) ?_
  unfold laws_FnExactVarsOf.f
  by_cases hbigt1 : (t1.length : Int) > 1048576
  · exact ev_pos hbigt1 (Ev.now _)
  refine ev_neg hbigt1 ?_
  refine ev_bind1 (szSign_eq s 1048576 (by omega) (by omega) (by omega)) ?_
  by_cases hbig : (1048576 : Int) < (s.length : Int)
  · rw [if_pos hbig]; exact ev_pos (by omega) (Ev.now _)
  rw [if_neg hbig]
  refine ev_neg (by omega) ?_
  obtain ⟨V, hV, hS, hI⟩ := VarsOf_both s t1 (by omega) (by omega)
  refine Ev.bind (toSign_ev s (by omega)) (Ev.bind (toIntS_ev t1 (by omega)) (Ev.bind hS (Ev.bind (toSign_ev s (by omega)) (Ev.bind (toIntS_ev t1 (by omega)) (Ev.bind hI (Ev.bind (eqIntS_self V.1 (by omega)) (ev_pos rfl ?_)))))))
  refine Ev.step (fun k => by rw [laws_FnExactVarsOf.j0]) (ev_neg (by simp) (Ev.bind (toSign_ev s (by omega)) (Ev.bind (eqSign_self s (by omega)) (ev_pos rfl (Ev.bind (toIntS_ev t1 (by omega)) (Ev.bind (eqIntS_self t1 (by omega)) (ev_pos rfl (?_))))))))
  refine Ev.bind (markSign_ev s 1 (by omega) (by omega)) ?_
  refine Ev.bind (markIntS_ev t1 (1 + (s.length : Int)) (by omega) (by omega)) ?_
  refine ev_neg (by omega) ?_
  refine Ev.bind (eqIntS_self V.1 (by omega)) (ev_pos rfl ?_)
  refine Ev.step (fun k => by rw [laws_FnExactVarsOf.j1]) (ev_neg (by simp) ?_)
  refine Ev.bind (markIntS_ev V.1 1 (by omega) (by omega)) ?_
  refine Ev.bind (heldIntS_ev V.1.length 1 (by omega) (by omega)) ?_
  refine ev_neg (by omega) ?_
  refine ev_pos rfl ?_
  refine Ev.bind (toSign_ev s (by omega)) (Ev.bind (toIntS_ev t1 (by omega)) (Ev.bind hI (Ev.bind (eqIntS_self V.1 (by omega)) (ev_pos rfl ?_))))
  refine Ev.step (fun k => by rw [laws_FnExactVarsOf.j2]) (ev_neg (by simp) ?_)
  refine Ev.bind (heldIntS_ev V.1.length 1 (by omega) (by omega)) ?_
  refine ev_neg (by omega) ?_
  exact ev_pos rfl (Ev.now _)
end Go.Proofs.Ytbekhijknpgbbaa.Q

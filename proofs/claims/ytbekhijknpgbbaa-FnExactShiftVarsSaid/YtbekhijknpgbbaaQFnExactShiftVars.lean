/- The pure statement of the law FnExactShiftVars: for all arguments the two functions agree; no condition. -/
import Derived.Test.YtbekhijknpgbbaaQX
import Derived.Test.YtbekhijknpgbbaaQM
import Derived.Test.YtbekhijknpgbbaaGZFnExactShiftVars
import Derived.Test.YtbekhijknpgbbaaGH42
import Derived.Test.YtbekhijknpgbbaaGH43
namespace Go.Proofs.Ytbekhijknpgbbaa.Q
open Go.RowKit Go.Proofs.Ytbekhijknpgbbaa.G Go.Proofs.YtbekhijknpgbbaaW.PrintWords Go.Proofs.YtbekhijknpgbbaaW.PrintLast Go.Proofs.YtbekhijknpgbbaaW.PrintMore
set_option linter.unusedVariables false
theorem ShiftVars_both (s t : List Int) (b : Int) (hl : s.length ≤ 140737488351232) (ht : t.length ≤ 140737488351232) : ∃ V : List Int × Bool, V.1.length ≤ 4096 ∧ Ev (fun k => spec_ShiftVars.f k s t b) V ∧ Ev (fun k => impl_ShiftVars.f k s t b) V := by
  unfold spec_ShiftVars.f impl_ShiftVars.f
  have no1 : Ev (fun k => spec_ShiftVars.j0 k t b true s) (([] : List Int), false) := Ev.step (f := fun _ => some ([], false)) (fun k => by rw [spec_ShiftVars.j0, if_pos rfl]) (Ev.now _)
  have no2 : Ev (fun k => impl_ShiftVars.j0 k t b true s) (([] : List Int), false) := Ev.step (f := fun _ => some ([], false)) (fun k => by rw [impl_ShiftVars.j0, if_pos rfl]) (Ev.now _)
  cases h : goodTerm s t with
  | false => exact ⟨([], false), by simp, Ev.bind (spec_GoodTerm_ev s t hl ht) (ev_neg (by simp [h]) no1), Ev.bind (impl_GoodTerm_ev s t hl ht) (ev_neg (by simp [h]) no2)⟩
  | true =>
    obtain ⟨h1, h2, h3⟩ := goodTerm_parts h
    have hs := goodSign_len h1
    have hlow := term_low h3
    have hall := scan_all s t 1 h3
    by_cases hb : inB 0 12 b = true
    · have hb' := hb
      unfold inB at hb'
      simp only [Bool.and_eq_true, decide_eq_true_eq] at hb'
      obtain ⟨e1, e2⟩ := Shift_ev t b hb'.1 (by omega) (by omega) (fun n hn => by
        have q1 := hlow n hn
        have q2 := hall n hn
        unfold okSym at q2
        simp only [Bool.and_eq_true, decide_eq_true_eq] at q2
        constructor <;> omega)
      have hlen : (t.map (shift1 b)).length ≤ 40 := by rw [List.length_map]; exact h2
      refine ⟨if isTerm s (t.map (shift1 b)) = true then (t.map (shift1 b), true) else ([], false), ?_, ?_, ?_⟩
      · split
        · simp only; omega
        · simp
      · refine Ev.bind (spec_GoodTerm_ev s t hl ht) (ev_pos h (ev_bind1 (l1In_eq _ _ _) ?_))
        rw [hb]
        refine Ev.step (fun k => by rw [spec_ShiftVars.j0, if_neg (by simp)]) (Ev.bind e1 (Ev.bind (spec_Term_ev s (t.map (shift1 b)) hs.2.2.1 hl (by omega)) ?_))
        by_cases ht : isTerm s (t.map (shift1 b)) = true
        · exact ev_pos ht (ev_some (by rw [if_pos ht]))
        · exact ev_neg ht (ev_some (by rw [if_neg ht]))
      · refine Ev.bind (impl_GoodTerm_ev s t hl ht) (ev_pos h (ev_neg (by omega) ?_))
        rw [decide_eq_false (show ¬ b > 12 by omega)]
        refine Ev.step (fun k => by rw [impl_ShiftVars.j0, if_neg (by simp)]) (Ev.bind e2 (Ev.bind (impl_Term_ev s (t.map (shift1 b)) hs.2.2.1 hl (by omega)) ?_))
        by_cases ht : isTerm s (t.map (shift1 b)) = true
        · exact ev_pos ht (ev_some (by rw [if_pos ht]))
        · exact ev_neg ht (ev_some (by rw [if_neg ht]))
    · refine ⟨([], false), by simp, ?_, ?_⟩
      · refine Ev.bind (spec_GoodTerm_ev s t hl ht) (ev_pos h (ev_bind1 (l1In_eq _ _ _) ?_))
        rw [Bool.eq_false_iff.2 hb]
        exact no1
      · refine Ev.bind (impl_GoodTerm_ev s t hl ht) (ev_pos h ?_)
        unfold inB at hb
        simp only [Bool.and_eq_true, decide_eq_true_eq] at hb
        by_cases hb0 : b < 0
        · exact ev_pos hb0 no2
        · refine ev_neg hb0 ?_
          rw [decide_eq_true (show b > 12 by omega)]
          exact no2
theorem FnExactShiftVars : laws_FnExactShiftVars.Pure := by
  intro s t1 n2 hs ht1 hn2
  have hs1 : s.length ≤ 17592186043904 := by have := hs.2.1; omega
  have ht11 : t1.length ≤ 17592186043904 := by have := ht1.2.1; omega
  refine Ev.rounds (g := fun k => laws_FnExactShiftVars.f k s t1 n2) ?_
  unfold laws_FnExactShiftVars.f
  by_cases hbigt1 : (t1.length : Int) > 1048576
  · exact ev_pos hbigt1 (Ev.now _)
  refine ev_neg hbigt1 ?_
  refine ev_bind1 (szSign_eq s 1048576 (by omega) (by omega) (by omega)) ?_
  by_cases hbig : (1048576 : Int) < (s.length : Int)
  · rw [if_pos hbig]; exact ev_pos (by omega) (Ev.now _)
  rw [if_neg hbig]
  refine ev_neg (by omega) ?_
  obtain ⟨V, hV, hS, hI⟩ := ShiftVars_both s t1 n2 (by omega) (by omega)
  refine Ev.bind (toSign_ev s (by omega)) (Ev.bind (toIntS_ev t1 (by omega)) (Ev.bind hS (Ev.bind (toSign_ev s (by omega)) (Ev.bind (toIntS_ev t1 (by omega)) (Ev.bind hI (Ev.bind (eqIntS_self V.1 (by omega)) (ev_pos rfl ?_)))))))
  refine Ev.step (fun k => by rw [laws_FnExactShiftVars.j0]) (ev_neg (by simp) (Ev.bind (toSign_ev s (by omega)) (Ev.bind (eqSign_self s (by omega)) (ev_pos rfl (Ev.bind (toIntS_ev t1 (by omega)) (Ev.bind (eqIntS_self t1 (by omega)) (ev_pos rfl (?_))))))))
  refine Ev.bind (markSign_ev s 1 (by omega) (by omega)) ?_
  refine Ev.bind (markIntS_ev t1 (1 + (s.length : Int)) (by omega) (by omega)) ?_
  refine ev_neg (by omega) ?_
  refine Ev.bind (eqIntS_self V.1 (by omega)) (ev_pos rfl ?_)
  refine Ev.step (fun k => by rw [laws_FnExactShiftVars.j1]) (ev_neg (by simp) ?_)
  refine Ev.bind (markIntS_ev V.1 1 (by omega) (by omega)) ?_
  refine Ev.bind (heldIntS_ev V.1.length 1 (by omega) (by omega)) ?_
  refine ev_neg (by omega) ?_
  refine ev_pos rfl ?_
  refine Ev.bind (toSign_ev s (by omega)) (Ev.bind (toIntS_ev t1 (by omega)) (Ev.bind hI (Ev.bind (eqIntS_self V.1 (by omega)) (ev_pos rfl ?_))))
  refine Ev.step (fun k => by rw [laws_FnExactShiftVars.j2]) (ev_neg (by simp) ?_)
  refine Ev.bind (heldIntS_ev V.1.length 1 (by omega) (by omega)) ?_
  refine ev_neg (by omega) ?_
  exact ev_pos rfl (Ev.now _)
end Go.Proofs.Ytbekhijknpgbbaa.Q

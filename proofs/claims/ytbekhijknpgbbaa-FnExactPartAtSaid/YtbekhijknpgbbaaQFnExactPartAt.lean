/- The pure statement of the law FnExactPartAt: for all arguments the two functions agree; no condition. -/
import Derived.Test.YtbekhijknpgbbaaQ2
import Derived.Test.YtbekhijknpgbbaaQM
import Derived.Test.YtbekhijknpgbbaaGZFnExactPartAt
import Derived.Test.YtbekhijknpgbbaaGH40
import Derived.Test.YtbekhijknpgbbaaGH41
namespace Go.Proofs.Ytbekhijknpgbbaa.Q
open Go.RowKit Go.Proofs.Ytbekhijknpgbbaa.G Go.Proofs.YtbekhijknpgbbaaW.PrintWords Go.Proofs.YtbekhijknpgbbaaW.PrintLast Go.Proofs.YtbekhijknpgbbaaW.PrintMore
set_option linter.unusedVariables false
theorem own_eq (x : List Int) (hx : x.length ≤ 1000000) : spec_l1Own.f x = some x := by
  unfold spec_l1Own.f
  simp only [Option.bind_some, List.length_nil, List.nil_append]
  rw [if_pos (by omega)]
theorem clone_eq (x : List Int) (hx : x.length ≤ 1000000) : slices_Clone_int_int.f x = some x := by
  unfold slices_Clone_int_int.f
  simp only [Option.bind_some, List.length_nil, List.nil_append]
  rw [if_pos (by omega)]
theorem endAt_in {s t : List Int} {a : Int} (h : asked s t a = true) : a ≤ endAt s t a ∧ endAt s t a ≤ (t.length : Int) := by
  obtain ⟨h1, h2, h3, h4, h5⟩ := asked_parts h
  obtain ⟨r, hr⟩ := scan_sub (j := a.toNat) h3 (by omega)
  have := scan_len hr
  rw [List.length_drop] at this
  unfold endAt endI
  rw [hr]
  simp only
  omega
theorem PartAt_both (s t : List Int) (a : Int) (hl : s.length ≤ 140737488351232) (ht : t.length ≤ 140737488351232) : ∃ V : List Int × Bool, V.1.length ≤ 4096 ∧ Ev (fun k => spec_PartAt.f k s t a) V ∧ Ev (fun k => impl_PartAt.f k s t a) V := by
  unfold spec_PartAt.f impl_PartAt.f spec_l1Part.f impl_Sign_part.f
  cases h : asked s t a with
  | false => exact ⟨([], false), by simp, Ev.bind (spec_Asked_ev s t a hl ht) (ev_neg (by simp [h]) (Ev.now _)), Ev.bind (impl_hasIndex_ev s t a hl ht) (ev_neg (by simp [h]) (Ev.now _))⟩
  | true =>
    obtain ⟨h1, h2, h3, h4, h5⟩ := asked_parts h
    obtain ⟨e1, e2⟩ := endAt_in h
    have hlen : ((t.take (endAt s t a).toNat).drop a.toNat).length ≤ 40 := by rw [List.length_drop, List.length_take]; omega
    refine ⟨((t.take (endAt s t a).toNat).drop a.toNat, true), by simp only; omega, ?_, ?_⟩
    · refine Ev.bind (spec_Asked_ev s t a hl ht) (ev_pos h (Ev.bind (Ev.bind (spec_EndAt_ev s t a hl ht h) (ev_pos h4 (ev_pos e1 (ev_pos e2 ?_)))) (Ev.now _)))
      exact ev_bind1 (own_eq _ (by omega)) (Ev.now _)
    · refine Ev.bind (impl_hasIndex_ev s t a hl ht) (ev_pos h (Ev.bind (Ev.bind (impl_EndAt_ev s t a hl ht h) (ev_pos h4 (ev_pos e1 (ev_pos e2 ?_)))) (Ev.now _)))
      exact ev_bind1 (clone_eq _ (by omega)) (Ev.now _)
theorem FnExactPartAt : laws_FnExactPartAt.Pure := by
  intro s t1 n2 hs ht1 hn2
  have hs1 : s.length ≤ 17592186043904 := by have := hs.2.1; omega
  have ht11 : t1.length ≤ 17592186043904 := by have := ht1.2.1; omega
  refine Ev.rounds (g := fun k => laws_FnExactPartAt.f k s t1 n2) ?_
  unfold laws_FnExactPartAt.f
  by_cases hbigt1 : (t1.length : Int) > 1048576
  · exact ev_pos hbigt1 (Ev.now _)
  refine ev_neg hbigt1 ?_
  refine ev_bind1 (szSign_eq s 1048576 (by omega) (by omega) (by omega)) ?_
  by_cases hbig : (1048576 : Int) < (s.length : Int)
  · rw [if_pos hbig]; exact ev_pos (by omega) (Ev.now _)
  rw [if_neg hbig]
  refine ev_neg (by omega) ?_
  obtain ⟨V, hV, hS, hI⟩ := PartAt_both s t1 n2 (by omega) (by omega)
  refine Ev.bind (toSign_ev s (by omega)) (Ev.bind (toIntS_ev t1 (by omega)) (Ev.bind hS (Ev.bind (toSign_ev s (by omega)) (Ev.bind (toIntS_ev t1 (by omega)) (Ev.bind hI (Ev.bind (eqIntS_self V.1 (by omega)) (ev_pos rfl ?_)))))))
  refine Ev.step (fun k => by rw [laws_FnExactPartAt.j0]) (ev_neg (by simp) (Ev.bind (toSign_ev s (by omega)) (Ev.bind (eqSign_self s (by omega)) (ev_pos rfl (Ev.bind (toIntS_ev t1 (by omega)) (Ev.bind (eqIntS_self t1 (by omega)) (ev_pos rfl (?_))))))))
  refine Ev.bind (markSign_ev s 1 (by omega) (by omega)) ?_
  refine Ev.bind (markIntS_ev t1 (1 + (s.length : Int)) (by omega) (by omega)) ?_
  refine ev_neg (by omega) ?_
  refine Ev.bind (eqIntS_self V.1 (by omega)) (ev_pos rfl ?_)
  refine Ev.step (fun k => by rw [laws_FnExactPartAt.j1]) (ev_neg (by simp) ?_)
  refine Ev.bind (markIntS_ev V.1 1 (by omega) (by omega)) ?_
  refine Ev.bind (heldIntS_ev V.1.length 1 (by omega) (by omega)) ?_
  refine ev_neg (by omega) ?_
  refine ev_pos rfl ?_
  refine Ev.bind (toSign_ev s (by omega)) (Ev.bind (toIntS_ev t1 (by omega)) (Ev.bind hI (Ev.bind (eqIntS_self V.1 (by omega)) (ev_pos rfl ?_))))
  refine Ev.step (fun k => by rw [laws_FnExactPartAt.j2]) (ev_neg (by simp) ?_)
  refine Ev.bind (heldIntS_ev V.1.length 1 (by omega) (by omega)) ?_
  refine ev_neg (by omega) ?_
  exact ev_pos rfl (Ev.now _)
end Go.Proofs.Ytbekhijknpgbbaa.Q

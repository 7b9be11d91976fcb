/- Plain facts for the law FnExactPartAt; no condition but bounds on lengths. -/
import Derived.Test.YtbekhijknpgbbaaQ2
import Derived.Test.YtbekhijknpgbbaaGH40
import Derived.Test.YtbekhijknpgbbaaGH41
namespace Go.Proofs.Ytbekhijknpgbbaa.Q
open Go.RowKit Go.Proofs.Ytbekhijknpgbbaa.G Go.Proofs.YtbekhijknpgbbaaW.PrintWords Go.Proofs.YtbekhijknpgbbaaW.PrintLast Go.Proofs.YtbekhijknpgbbaaW.PrintMore
set_option linter.unusedVariables false
theorem own_eq (x : List Int) (hx : x.length ≤ 1000000) : spec_l1Own.f x = some x := by
  unfold spec_l1Own.f
  simp only [Option.bind_some, List.length_nil, List.nil_append]
  rw [if_pos (by omega)]
theorem clone_eq (x : List Int) (hx : x.length ≤ 1000000) : slices_Clone_int_int.f x = some x := by
  unfold slices_Clone_int_int.f
  simp only [Option.bind_some, List.length_nil, List.nil_append]
  rw [if_pos (by omega)]
theorem endAt_in {s t : List Int} {a : Int} (h : asked s t a = true) : a ≤ endAt s t a ∧ endAt s t a ≤ (t.length : Int) := by
  obtain ⟨h1, h2, h3, h4, h5⟩ := asked_parts h
  obtain ⟨r, hr⟩ := scan_sub (j := a.toNat) h3 (by omega)
  have := scan_len hr
  rw [List.length_drop] at this
  unfold endAt endI
  rw [hr]
  simp only
  omega
theorem PartAt_both (s t : List Int) (a : Int) (hl : s.length ≤ 140737488351232) (ht : t.length ≤ 140737488351232) : ∃ V : List Int × Bool, V.1.length ≤ 4096 ∧ Ev (fun k => spec_PartAt.f k s t a) V ∧ Ev (fun k => impl_PartAt.f k s t a) V := by
  unfold spec_PartAt.f impl_PartAt.f spec_l1Part.f impl_Sign_part.f
  cases h : asked s t a with
  | false => exact ⟨([], false), by simp, Ev.bind (spec_Asked_ev s t a hl ht) (ev_neg (by simp [h]) (Ev.now _)), Ev.bind (impl_hasIndex_ev s t a hl ht) (ev_neg (by simp [h]) (Ev.now _))⟩
  | true =>
    obtain ⟨h1, h2, h3, h4, h5⟩ := asked_parts h
    obtain ⟨e1, e2⟩ := endAt_in h
    have hlen : ((t.take (endAt s t a).toNat).drop a.toNat).length ≤ 40 := by rw [List.length_drop, List.length_take]; omega
    refine ⟨((t.take (endAt s t a).toNat).drop a.toNat, true), by simp only; omega, ?_, ?_⟩
    · refine Ev.bind (spec_Asked_ev s t a hl ht) (ev_pos h (Ev.bind (Ev.bind (spec_EndAt_ev s t a hl ht h) (ev_pos h4 (ev_pos e1 (ev_pos e2 ?_)))) (Ev.now _)))
      exact ev_bind1 (own_eq _ (by omega)) (Ev.now _)
    · refine Ev.bind (impl_hasIndex_ev s t a hl ht) (ev_pos h (Ev.bind (Ev.bind (impl_EndAt_ev s t a hl ht h) (ev_pos h4 (ev_pos e1 (ev_pos e2 ?_)))) (Ev.now _)))
      exact ev_bind1 (clone_eq _ (by omega)) (Ev.now _)

end Go.Proofs.Ytbekhijknpgbbaa.Q

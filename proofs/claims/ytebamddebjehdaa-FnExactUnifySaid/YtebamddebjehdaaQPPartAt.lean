/- Plain facts for the law FnExactPartAt; no condition but bounds on lengths. -/
import Derived.Test.YtebamddebjehdaaQ2
import Derived.Test.YtebamddebjehdaaGH4
import Derived.Test.YtebamddebjehdaaGH7
namespace Go.Proofs.Ytebamddebjehdaa.Q
open Go.RowKit Go.Proofs.Ytebamddebjehdaa.G Go.Proofs.YtebamddebjehdaaW.PrintWords Go.Proofs.YtebamddebjehdaaW.PrintLast Go.Proofs.YtebamddebjehdaaW.PrintMore
set_option linter.unusedVariables false
theorem own_eq (x : List Int) (hx : x.length ≤ 1000000) : spec_l1Own.f x = some x := by
  unfold spec_l1Own.f
  simp only [Option.bind_some, List.length_nil, List.nil_append]
  rw [if_pos (by omega)]
theorem clone_eq (x : List Int) (hx : x.length ≤ 1000000) : slices_Clone_int_int.f x = some x := by
  unfold slices_Clone_int_int.f
  simp only [Option.bind_some, List.length_nil, List.nil_append]
  rw [if_pos (by omega)]
theorem endAt_in {s t : List Int} {a : Int} (h : asked s t a = true) : a ≤ endAt s t a ∧ endAt s t a ≤ (t.length : Int) := by
  obtain ⟨h1, h2, h3, h4, h5⟩ := asked_parts h
  obtain ⟨r, hr⟩ := scan_sub (j := a.toNat) h3 (by omega)
  have := scan_len hr
  rw [List.length_drop] at this
  unfold endAt endI
  rw [hr]
  simp only
  omega
end Go.Proofs.Ytebamddebjehdaa.Q

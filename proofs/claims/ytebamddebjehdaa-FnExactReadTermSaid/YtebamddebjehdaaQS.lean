/- Plain facts: equal lists; parts of a term; no condition but bounds on lengths. -/
import Derived.Test.YtebamddebjehdaaQ1
namespace Go.Proofs.Ytebamddebjehdaa.Q
open Go.RowKit Go.Proofs.Ytebamddebjehdaa.G Go.Proofs.YtebamddebjehdaaW.PrintWords Go.Proofs.YtebamddebjehdaaW.PrintLast Go.Proofs.YtebamddebjehdaaW.PrintMore
set_option linter.unusedVariables false
theorem isTerm_parts {s t : List Int} (h : isTerm s t = true) : t.length ≤ 40 ∧ scan s t 1 = some [] ∧ ∀ n ∈ t, okSym s n = true := by
  unfold isTerm at h
  simp only [Bool.and_eq_true, decide_eq_true_eq] at h
  exact ⟨h.1, h.2, scan_all s t 1 h.2⟩
theorem sym_high {s : List Int} (hl : s.length ≤ 1000) {n : Int} (h : okSym s n = true) : n ≤ 1000000000 := by
  unfold okSym at h
  simp only [Bool.and_eq_true, decide_eq_true_eq] at h
  omega
/-! ### equal lists -/
end Go.Proofs.Ytebamddebjehdaa.Q

/- Plain facts: the counts of sizes, in one form; no condition but bounds on lengths. -/
import Derived.Test.YtebamddebjehdaaQ0
import Derived.Test.YtebamddebjehdaaGH1
namespace Go.Proofs.Ytebamddebjehdaa.Q
open Go.RowKit Go.Proofs.Ytebamddebjehdaa.G Go.Proofs.YtebamddebjehdaaW.PrintWords Go.Proofs.YtebamddebjehdaaW.PrintLast Go.Proofs.YtebamddebjehdaaW.PrintMore
set_option linter.unusedVariables false
theorem szIntS_z (l : List Int) (a : Int) (ha : 0 ≤ a) (hb : a ≤ 1048576) (hl : l.length ≤ 140737488351232) : ∃ z : Int, laws_szIntS.f l a = some z ∧ (¬ z < 0 → (l.length : Int) + z = a) := by
  refine ⟨_, szIntS_eq l a ha hb hl, fun h => ?_⟩
  split at h <;> omega
theorem szSign_z (l : List Int) (a : Int) (ha : 0 ≤ a) (hb : a ≤ 1048576) (hl : l.length ≤ 140737488351232) : ∃ z : Int, laws_szSign.f l a = some z ∧ (¬ z < 0 → (l.length : Int) + z = a) := by
  refine ⟨_, szSign_eq l a ha hb hl, fun h => ?_⟩
  by_cases q : a < (l.length : Int)
  · rw [if_pos q] at h; omega
  · rw [if_neg q]; omega
end Go.Proofs.Ytebamddebjehdaa.Q

/- Plain facts: rows of which the first ones are told; no condition. -/
import Derived.Test.YtebamddebjehdaaQ5
namespace Go.Proofs.Ytebamddebjehdaa.Q
open Go.RowKit Go.Proofs.Ytebamddebjehdaa.G Go.Proofs.YtebamddebjehdaaW.PrintWords Go.Proofs.YtebamddebjehdaaW.PrintLast Go.Proofs.YtebamddebjehdaaW.PrintMore
set_option linter.unusedVariables false
/-- Twelve rows of which the first ones are told. -/
def upTo (m : Nat) (f : Nat → List Int) (j : Nat) : List (List Int) := (List.range m).map (fun i => if i < j then f i else [])
theorem upTo_len (m : Nat) (f : Nat → List Int) (j : Nat) : (upTo m f j).length = m := by simp [upTo]
theorem upTo_zero (m : Nat) (f : Nat → List Int) : upTo m f 0 = List.replicate m [] := by
  unfold upTo
  apply List.ext_getElem (by simp)
  intro i h1 h2
  simp
theorem upTo_set (m : Nat) (f : Nat → List Int) (j : Nat) : (upTo m f j).set j (f j) = upTo m f (j + 1) := by
  apply List.ext_getElem (by simp [upTo])
  intro i h1 h2
  by_cases e : j = i
  · subst e
    simp [upTo]
  · rw [List.getElem_set_ne e]
    simp only [upTo, List.getElem_map, List.getElem_range]
    by_cases h : i < j
    · rw [if_pos h, if_pos (by omega)]
    · rw [if_neg h, if_neg (by omega)]
theorem upTo_skip (m : Nat) (f : Nat → List Int) (j : Nat) (h0 : f j = []) : upTo m f j = upTo m f (j + 1) := by
  unfold upTo
  apply List.map_congr_left
  intro i _
  by_cases e : i = j
  · subst e; simp [h0]
  · by_cases h : i < j
    · rw [if_pos h, if_pos (by omega)]
    · rw [if_neg h, if_neg (by omega)]
theorem upTo_full (m : Nat) (f : Nat → List Int) : upTo m f m = (List.range m).map f := by
  unfold upTo
  apply List.map_congr_left
  intro i hi
  rw [if_pos (List.mem_range.1 hi)]
end Go.Proofs.Ytebamddebjehdaa.Q

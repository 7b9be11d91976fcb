/- Plain facts: powers of small numbers, as the two sides reckon them; no condition but bounds. -/
import Derived.Test.YtekoaaeppndjnaaQ1
import Derived.Test.YtekoaaeppndjnaaGH2
namespace Go.Proofs.Ytekoaaeppndjnaa.Q
open Go.RowKit Go.Proofs.Ytekoaaeppndjnaa.G Go.Proofs.YtekoaaeppndjnaaW.PrintWords Go.Proofs.YtekoaaeppndjnaaW.PrintLast Go.Proofs.YtekoaaeppndjnaaW.PrintMore
set_option linter.unusedVariables false
def lng (n : Int) : Nat → Int
  | 0 => 1
  | m + 1 => lng n m * n
theorem size_cases {n : Int} (h1 : 1 ≤ n) (h2 : n ≤ 3) : n = 1 ∨ n = 2 ∨ n = 3 := by omega
theorem ar_cases {a : Nat} (h : a ≤ 3) : a = 0 ∨ a = 1 ∨ a = 2 ∨ a = 3 := by omega
theorem lng_in {n : Int} (h1 : 1 ≤ n) (h2 : n ≤ 3) {a : Nat} (ha : a ≤ 3) : 1 ≤ lng n a ∧ lng n a ≤ 27 := by
  rcases size_cases h1 h2 with rfl | rfl | rfl <;> rcases ar_cases ha with rfl | rfl | rfl | rfl <;> decide
theorem Long_ev {n : Int} (h1 : 1 ≤ n) (h2 : n ≤ 3) {a : Nat} (ha : a ≤ 3) : Ev (fun k => spec_l5Long.f k n (a : Int)) (lng n a) := by
  rcases size_cases h1 h2 with rfl | rfl | rfl <;> rcases ar_cases ha with rfl | rfl | rfl | rfl <;> exact Ev.of (spec_l5Long.mono _ _) (k := 8) (by kernel_rfl)
theorem entries_ev {n : Int} (h1 : 1 ≤ n) (h2 : n ≤ 3) {a : Nat} (ha : a ≤ 3) : Ev (fun k => impl_entries.f k n (a : Int)) (lng n a) := by
  rcases size_cases h1 h2 with rfl | rfl | rfl <;> rcases ar_cases ha with rfl | rfl | rfl | rfl <;> exact Ev.of (impl_entries.mono _ _) (k := 8) (by kernel_rfl)
theorem isSize_eq (n : Int) : impl_isSize.f n = some (inB 1 3 n) := by
  unfold impl_isSize.f inB
  by_cases h : n ≥ 1
  · rw [if_pos h, decide_eq_true (show 1 ≤ n from h), Bool.true_and]
  · rw [if_neg h, decide_eq_false (show ¬ 1 ≤ n from h), Bool.false_and]
theorem arity {s : List Int} (h : allIn 0 3 s = true) {j : Nat} (hj : j < s.length) : ∃ a : Nat, s[j] = (a : Int) ∧ a ≤ 3 := by
  unfold allIn at h
  rw [List.all_eq_true] at h
  have := h _ (List.getElem_mem hj)
  unfold inB at this
  simp only [Bool.and_eq_true, decide_eq_true_eq] at this
  exact ⟨s[j].toNat, by omega, by omega⟩
end Go.Proofs.Ytekoaaeppndjnaa.Q

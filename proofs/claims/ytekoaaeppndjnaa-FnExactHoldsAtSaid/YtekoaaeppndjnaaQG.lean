/- Plain facts: the rest behind a part of a term; no condition but bounds on lengths. -/
import Derived.Test.YtekoaaeppndjnaaQ1
namespace Go.Proofs.Ytekoaaeppndjnaa.Q
open Go.RowKit Go.Proofs.Ytekoaaeppndjnaa.G Go.Proofs.YtekoaaeppndjnaaW.PrintWords Go.Proofs.YtekoaaeppndjnaaW.PrintLast Go.Proofs.YtekoaaeppndjnaaW.PrintMore
set_option linter.unusedVariables false
theorem drop_rest {t l r : List Int} {j : Nat} (hl : t.drop j = l) (hj : j ≤ t.length) (p : List Int) (hp : l = p ++ r) : t.drop (t.length - r.length) = r ∧ r.length ≤ t.length := by
  have h3 : t = t.take j ++ (p ++ r) := by rw [← hp, ← hl, List.take_append_drop]
  have h5 : t.length = (t.take j ++ p).length + r.length := by
    have := congrArg List.length h3
    simp only [List.length_append] at this ⊢
    omega
  refine ⟨?_, by omega⟩
  have h6 : t = (t.take j ++ p) ++ r := by rw [List.append_assoc]; exact h3
  rw [show t.length - r.length = (t.take j ++ p).length by omega]
  exact (congrArg (List.drop (t.take j ++ p).length) h6).trans List.drop_left
theorem scan_first {s l r : List Int} {m : Nat} (h : scan s l (m + 1) = some r) : ∃ r1, scan s l 1 = some r1 ∧ scan s r1 m = some r := by
  rw [show m + 1 = 1 + m by omega, scan_add] at h
  cases h1 : scan s l 1 with
  | none => rw [h1] at h; cases h
  | some r1 => rw [h1] at h; exact ⟨r1, rfl, h⟩
theorem scan_args {s t : List Int} {j : Nat} (h : scan s t 1 = some []) (hj : j < t.length) : okSym s t[j] = true ∧ ∃ r, scan s (t.drop (j + 1)) (ar s t[j]) = some r := by
  obtain ⟨r, hr⟩ := scan_sub h hj
  rw [scan_step hj] at hr
  by_cases ho : okSym s t[j] = true
  · rw [if_pos ho, Nat.zero_add] at hr; exact ⟨ho, r, hr⟩
  · rw [if_neg ho] at hr; cases hr
theorem getD_get {t : List Int} {j : Nat} (hj : j < t.length) : t.getD j 0 = t[j] := by
  rw [List.getD_eq_getElem?_getD, List.getElem?_eq_getElem hj]; rfl
theorem drop_cons {t l : List Int} {n : Int} {j : Nat} (h : t.drop j = n :: l) : ∃ hj : j < t.length, t[j] = n ∧ t.drop (j + 1) = l := by
  have hj : j < t.length := by
    rcases Nat.lt_or_ge j t.length with h' | h'
    · exact h'
    · rw [List.drop_eq_nil_of_le h'] at h; cases h
  rw [List.drop_eq_getElem_cons hj] at h
  injection h with h1 h2
  exact ⟨hj, h1, h2⟩
end Go.Proofs.Ytekoaaeppndjnaa.Q

/- Plain facts: a part of a term put in the place of another; no condition but bounds on lengths. -/
import Derived.Test.YtebamddebjehdaaQ7
import Derived.Test.YtebamddebjehdaaQPPartAt
namespace Go.Proofs.Ytebamddebjehdaa.Q
open Go.RowKit Go.Proofs.Ytebamddebjehdaa.G Go.Proofs.YtebamddebjehdaaW.PrintWords Go.Proofs.YtebamddebjehdaaW.PrintLast Go.Proofs.YtebamddebjehdaaW.PrintMore
set_option linter.unusedVariables false
theorem scan_prefix (s : List Int) : ∀ (l : List Int) (j m : Nat), scan s l m = some [] → j < l.length → ∃ m', (∀ x, scan s (l.take j ++ x) m = scan s x (m' + 1)) ∧ scan s (l.drop j) (m' + 1) = some []
  | [], j, m, _, hj => by simp at hj
  | n :: t, 0, 0, h, _ => by rw [scan_zero] at h; cases h
  | n :: t, 0, m + 1, h, _ => ⟨m, fun x => rfl, h⟩
  | n :: t, j + 1, 0, h, _ => by rw [scan_zero] at h; cases h
  | n :: t, j + 1, m + 1, h, hj => by
    rw [scan_cons] at h
    by_cases ho : okSym s n = true
    · rw [if_pos ho] at h
      obtain ⟨m', h1, h2⟩ := scan_prefix s t j _ h (by simpa using hj)
      refine ⟨m', fun x => ?_, by simpa using h2⟩
      rw [List.take_succ_cons, List.cons_append, scan_cons, if_pos ho]
      exact h1 x
    · rw [if_neg ho] at h; cases h
theorem drop_suffix {t p r : List Int} {j : Nat} (hj : j ≤ t.length) (h : t.drop j = p ++ r) : r = t.drop (t.length - r.length) := by
  have hl := congrArg List.length h
  rw [List.length_drop, List.length_append] at hl
  have : t.length - r.length = j + p.length := by omega
  rw [this, ← List.drop_drop, h, List.drop_left]
def endN (s t : List Int) (a : Int) : Nat := (endAt s t a).toNat
def replL (s t : List Int) (a : Int) (u : List Int) : List Int := t.take a.toNat ++ u ++ t.drop (endN s t a)
theorem endN_eq {s t : List Int} {a : Int} (h : asked s t a = true) : endAt s t a = (endN s t a : Int) ∧ a.toNat ≤ endN s t a ∧ endN s t a ≤ t.length ∧ a = (a.toNat : Int) ∧ a.toNat < t.length := by
  obtain ⟨h1, h2, h3, h4, h5⟩ := asked_parts h
  obtain ⟨e1, e2⟩ := endAt_in h
  unfold endN
  omega
theorem repl_scan {s t u : List Int} {a : Int} (h : asked s t a = true) (hu : isTerm s u = true) : scan s (replL s t a u) 1 = some [] := by
  obtain ⟨h1, h2, h3, h4, h5⟩ := asked_parts h
  obtain ⟨m', p1, p2⟩ := scan_prefix s t a.toNat 1 h3 (by omega)
  obtain ⟨r, hr⟩ := scan_sub (j := a.toNat) h3 (by omega)
  obtain ⟨p, hp⟩ := scan_suffix s _ _ _ hr
  have hrd := drop_suffix (by omega) hp
  have he : endN s t a = t.length - r.length := by
    unfold endN endAt endI
    rw [hr]
    simp only
    have := scan_len hr
    rw [List.length_drop] at this
    omega
  have h7 : scan s r m' = some [] := by
    rw [show m' + 1 = 1 + m' by omega, scan_add, hr] at p2
    exact p2
  unfold replL
  rw [he, ← hrd, List.append_assoc, p1, show m' + 1 = 1 + m' by omega, scan_add, scan_append s r u 1 [] (isTerm_parts hu).2.1]
  exact h7
def ReplaceV (s t : List Int) (a : Int) (u : List Int) : List Int × Bool := if asked s t a = true ∧ isTerm s u = true then (if (replL s t a u).length ≤ 40 then (replL s t a u, true) else ([], false)) else ([], false)
theorem replL_len {s t u : List Int} {a : Int} (h : asked s t a = true) (hu : isTerm s u = true) : (replL s t a u).length ≤ 80 := by
  obtain ⟨e1, e2, e3, e4, e5⟩ := endN_eq h
  have := (asked_parts h).2.1
  have := (isTerm_parts hu).1
  unfold replL
  simp only [List.length_append, List.length_take, List.length_drop]
  omega
end Go.Proofs.Ytebamddebjehdaa.Q

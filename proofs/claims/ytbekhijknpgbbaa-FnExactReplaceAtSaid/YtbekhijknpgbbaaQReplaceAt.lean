/- Plain facts: a part of a term put in the place of another; no condition but bounds on lengths. -/
import Derived.Test.YtbekhijknpgbbaaQ7
import Derived.Test.YtbekhijknpgbbaaQPPartAt
import Derived.Test.YtbekhijknpgbbaaGH6
import Derived.Test.YtbekhijknpgbbaaGH44
namespace Go.Proofs.Ytbekhijknpgbbaa.Q
open Go.RowKit Go.Proofs.Ytbekhijknpgbbaa.G Go.Proofs.YtbekhijknpgbbaaW.PrintWords Go.Proofs.YtbekhijknpgbbaaW.PrintLast Go.Proofs.YtbekhijknpgbbaaW.PrintMore
set_option linter.unusedVariables false
theorem scan_prefix (s : List Int) : ∀ (l : List Int) (j m : Nat), scan s l m = some [] → j < l.length → ∃ m', (∀ x, scan s (l.take j ++ x) m = scan s x (m' + 1)) ∧ scan s (l.drop j) (m' + 1) = some []
  | [], j, m, _, hj => by simp at hj
  | n :: t, 0, 0, h, _ => by rw [scan_zero] at h; cases h
  | n :: t, 0, m + 1, h, _ => ⟨m, fun x => rfl, h⟩
  | n :: t, j + 1, 0, h, _ => by rw [scan_zero] at h; cases h
  | n :: t, j + 1, m + 1, h, hj => by
    rw [scan_cons] at h
    by_cases ho : okSym s n = true
    · rw [if_pos ho] at h
      obtain ⟨m', h1, h2⟩ := scan_prefix s t j _ h (by simpa using hj)
      refine ⟨m', fun x => ?_, by simpa using h2⟩
      rw [List.take_succ_cons, List.cons_append, scan_cons, if_pos ho]
      exact h1 x
    · rw [if_neg ho] at h; cases h
theorem drop_suffix {t p r : List Int} {j : Nat} (hj : j ≤ t.length) (h : t.drop j = p ++ r) : r = t.drop (t.length - r.length) := by
  have hl := congrArg List.length h
  rw [List.length_drop, List.length_append] at hl
  have : t.length - r.length = j + p.length := by omega
  rw [this, ← List.drop_drop, h, List.drop_left]
def endN (s t : List Int) (a : Int) : Nat := (endAt s t a).toNat
def replL (s t : List Int) (a : Int) (u : List Int) : List Int := t.take a.toNat ++ u ++ t.drop (endN s t a)
theorem endN_eq {s t : List Int} {a : Int} (h : asked s t a = true) : endAt s t a = (endN s t a : Int) ∧ a.toNat ≤ endN s t a ∧ endN s t a ≤ t.length ∧ a = (a.toNat : Int) ∧ a.toNat < t.length := by
  obtain ⟨h1, h2, h3, h4, h5⟩ := asked_parts h
  obtain ⟨e1, e2⟩ := endAt_in h
  unfold endN
  omega
theorem repl_scan {s t u : List Int} {a : Int} (h : asked s t a = true) (hu : isTerm s u = true) : scan s (replL s t a u) 1 = some [] := by
  obtain ⟨h1, h2, h3, h4, h5⟩ := asked_parts h
  obtain ⟨m', p1, p2⟩ := scan_prefix s t a.toNat 1 h3 (by omega)
  obtain ⟨r, hr⟩ := scan_sub (j := a.toNat) h3 (by omega)
  obtain ⟨p, hp⟩ := scan_suffix s _ _ _ hr
  have hrd := drop_suffix (by omega) hp
  have he : endN s t a = t.length - r.length := by
    unfold endN endAt endI
    rw [hr]
    simp only
    have := scan_len hr
    rw [List.length_drop] at this
    omega
  have h7 : scan s r m' = some [] := by
    rw [show m' + 1 = 1 + m' by omega, scan_add, hr] at p2
    exact p2
  unfold replL
  rw [he, ← hrd, List.append_assoc, p1, show m' + 1 = 1 + m' by omega, scan_add, scan_append s r u 1 [] (isTerm_parts hu).2.1]
  exact h7
def ReplaceV (s t : List Int) (a : Int) (u : List Int) : List Int × Bool := if asked s t a = true ∧ isTerm s u = true then (if (replL s t a u).length ≤ 40 then (replL s t a u, true) else ([], false)) else ([], false)
theorem replL_len {s t u : List Int} {a : Int} (h : asked s t a = true) (hu : isTerm s u = true) : (replL s t a u).length ≤ 80 := by
  obtain ⟨e1, e2, e3, e4, e5⟩ := endN_eq h
  have := (asked_parts h).2.1
  have := (isTerm_parts hu).1
  unfold replL
  simp only [List.length_append, List.length_take, List.length_drop]
  omega
theorem spec_ReplaceAt_ev (s t u : List Int) (a : Int) (hl : s.length ≤ 140737488351232) (ht : t.length ≤ 140737488351232) (hu : u.length ≤ 140737488351232) : Ev (fun k => spec_ReplaceAt.f k s t a u) (ReplaceV s t a u) := by
  unfold spec_ReplaceAt.f ReplaceV
  refine Ev.bind (spec_Asked_ev s t a hl ht) ?_
  by_cases h : asked s t a = true
  · refine ev_pos h ?_
    obtain ⟨h1, h2, h3, h4, h5⟩ := asked_parts h
    obtain ⟨e1, e2, e3, e4, e5⟩ := endN_eq h
    refine Ev.bind (spec_Term_ev s u (goodSign_len h1).2.2.1 hl hu) ?_
    refine Ev.step (f := fun k => if (!isTerm s u) = true then some ([], false) else (spec_l1Replace.f k s t a u).bind fun y => (spec_l1Term.f k s y).bind fun z => if z = true then some (y, true) else some ([], false)) (fun k => rfl) ?_
    by_cases hT : isTerm s u = true
    · have hul := (isTerm_parts hT).1
      rw [if_pos ⟨h, hT⟩]
      refine ev_neg (by simp [hT]) ?_
      have hrep : Ev (fun k => spec_l1Replace.f k s t a u) (replL s t a u) := by
        unfold spec_l1Replace.f
        have hown := own_eq (t.take a.toNat) (by rw [List.length_take]; omega)
        refine ev_pos h4 (ev_pos (by omega) (ev_bind1 hown (ev_pos (by rw [List.length_take]; omega) ?_)))
        refine ev_bind1 rfl (Ev.bind (spec_EndAt_ev s t a hl ht h) ?_)
        rw [e1]
        refine ev_pos (by omega) (ev_pos (by omega) (ev_pos ?_ (Ev.now _)))
        simp only [List.length_append, List.length_take, List.length_drop]
        omega
      refine Ev.bind hrep (Ev.bind (spec_Term_ev s (replL s t a u) (goodSign_len h1).2.2.1 hl (by have := replL_len h hT; omega)) ?_)
      have hi : isTerm s (replL s t a u) = decide ((replL s t a u).length ≤ 40) := by unfold isTerm; rw [repl_scan h hT]; simp
      rw [hi]
      by_cases h40 : (replL s t a u).length ≤ 40
      · rw [if_pos h40, decide_eq_true h40]; exact ev_pos rfl (Ev.now _)
      · rw [if_neg h40, decide_eq_false h40]; exact ev_neg (by decide) (Ev.now _)
    · rw [if_neg (fun h => hT h.2)]
      exact ev_pos (by simp [hT]) (Ev.now _)
  · rw [if_neg (fun h2 => h h2.1)]
    refine ev_neg h ?_
    exact Ev.step (f := fun _ => some ([], false)) (fun k => rfl) (Ev.now _)
theorem ReplaceAt_both (s t : List Int) (a : Int) (u : List Int) (hl : s.length ≤ 140737488351232) (ht : t.length ≤ 140737488351232) (hu : u.length ≤ 140737488351232) :
    ∃ V : List Int × Bool, V.1.length ≤ 40 ∧ Ev (fun k => spec_ReplaceAt.f k s t a u) V ∧ ReplaceV s t a u = V := by
  refine ⟨_, ?_, spec_ReplaceAt_ev s t u a hl ht hu, rfl⟩
  unfold ReplaceV
  split
  · split
    · assumption
    · simp
  · simp
end Go.Proofs.Ytbekhijknpgbbaa.Q

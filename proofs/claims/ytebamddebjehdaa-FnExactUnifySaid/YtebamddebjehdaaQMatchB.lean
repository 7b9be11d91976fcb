/- Plain facts: what a match may hold; no condition but bounds on lengths. -/
import Derived.Test.YtebamddebjehdaaQMatch
namespace Go.Proofs.Ytebamddebjehdaa.Q
open Go.RowKit Go.Proofs.Ytebamddebjehdaa.G Go.Proofs.YtebamddebjehdaaW.PrintWords Go.Proofs.YtebamddebjehdaaW.PrintLast Go.Proofs.YtebamddebjehdaaW.PrintMore
set_option linter.unusedVariables false
theorem partT_len (s t : List Int) : (partT s t).length ≤ t.length := by
  unfold partT
  split
  · rw [List.length_take]; omega
  · simp
theorem matchL_rows (s : List Int) : ∀ (p t : List Int) (b b' : List (List Int)), t.length ≤ 40 → b.length = 12 → (∀ y ∈ b, y.length ≤ 40) → matchL s p t b = some b' → b'.length = 12 ∧ ∀ y ∈ b', y.length ≤ 40
  | [], t, b, b', ht, hb, h, e => by cases e; exact ⟨hb, h⟩
  | n :: p, t, b, b', ht, hb, h, e => by
    unfold matchL at e
    split at e
    · split at e
      · exact matchL_rows s p _ b b' (by rw [List.length_drop]; omega) hb h e
      · cases e
    · split at e
      · cases e
      · refine matchL_rows s p _ _ b' (by rw [List.length_drop]; omega) (by rw [List.length_set]; exact hb) (fun y hy => ?_) e
        rcases List.mem_or_eq_of_mem_set hy with hy | rfl
        · exact h y hy
        · have := partT_len s t; omega
theorem stay_len (v : Nat) (x : List Int) : (stay v x).length ≤ x.length := by
  unfold stay; split
  · simp
  · exact Nat.le_refl _
theorem rows_sum (c : Nat) : ∀ (l : List (List Int)), (∀ x ∈ l, x.length ≤ c) → sumLen l ≤ c * l.length
  | [], _ => by simp [sumLen]
  | x :: l, h => by
    have h1 := h x List.mem_cons_self
    have h2 := rows_sum c l (fun y hy => h y (List.mem_cons_of_mem _ hy))
    simp only [sumLen, List.length_cons, Nat.mul_succ]
    omega
/-- The first rows told anew. -/
def stayTo (b : List (List Int)) (j : Nat) : List (List Int) := (List.range 12).map (fun v => if v < j then stay v (rd_L1 b (v : Int)) else rd_L1 b (v : Int))
theorem stayTo_len (b : List (List Int)) (j : Nat) : (stayTo b j).length = 12 := by simp [stayTo]
theorem stayTo_zero {b : List (List Int)} (h : b.length = 12) : stayTo b 0 = b := by
  apply List.ext_getElem (by rw [stayTo_len, h])
  intro i h1 h2
  simp only [stayTo, List.getElem_map, List.getElem_range, Nat.not_lt_zero, if_false]
  exact rd_L1_get h2
theorem stayTo_full (b : List (List Int)) : stayTo b 12 = stayAll b := by
  unfold stayTo stayAll
  apply List.map_congr_left
  intro i hi
  rw [if_pos (List.mem_range.1 hi)]
theorem stayTo_set (b : List (List Int)) (j : Nat) : (stayTo b j).set j (stay j (rd_L1 b (j : Int))) = stayTo b (j + 1) := by
  apply List.ext_getElem (by simp [stayTo])
  intro i h1 h2
  by_cases e : j = i
  · subst e
    simp [stayTo]
  · rw [List.getElem_set_ne e]
    simp only [stayTo, List.getElem_map, List.getElem_range]
    by_cases h : i < j
    · rw [if_pos h, if_pos (by omega)]
    · rw [if_neg h, if_neg (by omega)]
theorem stayTo_get (b : List (List Int)) {j : Nat} (hj : j < 12) : (stayTo b j).getD j [] = rd_L1 b (j : Int) := by
  rw [List.getD_eq_getElem?_getD, List.getElem?_eq_getElem (by rw [stayTo_len]; exact hj)]
  simp [stayTo]
theorem Match_both (s p t : List Int) (_ : s.length ≤ 140737488351232) (_ : p.length ≤ 140737488351232) (_ : t.length ≤ 140737488351232) :
    ∃ V : List (List Int) × Bool, V.1.length + sumLen V.1 ≤ 1000 ∧ MatchV s p t = V ∧ MatchV s p t = V := by
  refine ⟨_, ?_, rfl, rfl⟩
  unfold MatchV
  by_cases h : goodTerm s p = true ∧ isTerm s t = true
  · rw [if_pos h]
    cases e : matchL s p t (List.replicate 12 []) with
    | none => simp [sumLen]
    | some b =>
      have hb := matchL_rows s p t _ b (isTerm_parts h.2).1 (by simp) (fun y hy => by rw [(List.mem_replicate.1 hy).2]; simp) e
      have := rows_sum 40 (stayAll b) (fun x hx => by
        unfold stayAll at hx
        obtain ⟨v, hv, rfl⟩ := List.mem_map.1 hx
        have hv' : v < b.length := by rw [hb.1]; exact List.mem_range.1 hv
        have h1 := stay_len v (rd_L1 b (v : Int))
        rw [rd_L1_get hv'] at h1 ⊢
        have h2 := hb.2 _ (List.getElem_mem hv')
        omega)
      have e2 : (stayAll b).length = 12 := by simp [stayAll]
      simp only [e2] at this ⊢
      omega
  · rw [if_neg h]; simp [sumLen]
end Go.Proofs.Ytebamddebjehdaa.Q

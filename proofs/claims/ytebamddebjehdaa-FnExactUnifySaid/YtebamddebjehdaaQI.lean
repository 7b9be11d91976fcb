/- Plain facts: the variables of terms, the program's own way; no condition but bounds on lengths. -/
import Derived.Test.YtebamddebjehdaaQV
import Derived.Test.YtebamddebjehdaaQN
import Derived.Test.YtebamddebjehdaaGH7
namespace Go.Proofs.Ytebamddebjehdaa.Q
open Go.RowKit Go.Proofs.Ytebamddebjehdaa.G Go.Proofs.YtebamddebjehdaaW.PrintWords Go.Proofs.YtebamddebjehdaaW.PrintLast Go.Proofs.YtebamddebjehdaaW.PrintMore
set_option linter.unusedVariables false
/-! ### has a list a number -/
theorem Index_l0 (a : Int) (x : List Int) (hx : x.length ≤ 140737488351232) (d : Nat) : ∀ j : Nat, x.length - j = d → j ≤ x.length → ∃ r : Int, Ev (fun k => slices_Index_int_int.l0 k x a (x.length : Int) (j : Int)) r ∧ decide (r ≥ 0) = decide (a ∈ x.drop j) := by
  induction d with
  | zero =>
    intro j hd hj
    refine ⟨-1, Ev.step (f := fun _ => some (-1)) (fun k => by rw [slices_Index_int_int.l0, if_neg (by omega)]) (Ev.now _), ?_⟩
    rw [List.drop_eq_nil_of_le (by omega)]
    rfl
  | succ d ih =>
    intro j hd hj
    have hlt : j < x.length := by omega
    by_cases h : a = x[j]
    · refine ⟨j, Ev.step (f := fun _ => some (j : Int)) (fun k => by rw [slices_Index_int_int.l0, if_pos (by omega), if_pos (by omega), if_pos (by omega), rd_get hlt, if_pos h]) (Ev.now _), ?_⟩
      have hm : a ∈ x.drop j := by rw [List.drop_eq_getElem_cons hlt, ← h]; exact List.mem_cons_self
      rw [decide_eq_true hm, decide_eq_true (by omega)]
    · obtain ⟨r, hr, hd2⟩ := ih (j + 1) (by omega) (by omega)
      refine ⟨r, Ev.step (f := fun k => slices_Index_int_int.l0 k x a (x.length : Int) ((j + 1 : Nat) : Int)) (fun k => ?_) hr, ?_⟩
      · rw [slices_Index_int_int.l0, if_pos (by omega), if_pos (by omega), if_pos (by omega), rd_get hlt, if_neg h, w64 (by omega) (by omega), cast1]
      · rw [hd2, List.drop_eq_getElem_cons hlt, decide_eq_decide, List.mem_cons]
        exact ⟨Or.inr, fun h' => h'.resolve_left h⟩
theorem Contains_ev (x : List Int) (a : Int) (hx : x.length ≤ 140737488351232) : Ev (fun k => slices_Contains_int_int.f k x a) (decide (a ∈ x)) := by
  unfold slices_Contains_int_int.f slices_Index_int_int.f
  obtain ⟨r, hr, hd⟩ := Index_l0 a x hx x.length 0 (by omega) (by omega)
  refine Ev.bind hr (ev_some ?_)
  simpa using hd

end Go.Proofs.Ytebamddebjehdaa.Q

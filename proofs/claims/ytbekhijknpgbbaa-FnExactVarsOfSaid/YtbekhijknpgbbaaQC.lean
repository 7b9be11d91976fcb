/- Plain facts: how often a number occurs; no condition but bounds on lengths. -/
import Derived.Test.YtbekhijknpgbbaaQ1
import Derived.Test.YtbekhijknpgbbaaGH11
namespace Go.Proofs.Ytbekhijknpgbbaa.Q
open Go.RowKit Go.Proofs.Ytbekhijknpgbbaa.G Go.Proofs.YtbekhijknpgbbaaW.PrintWords Go.Proofs.YtbekhijknpgbbaaW.PrintLast Go.Proofs.YtbekhijknpgbbaaW.PrintMore
set_option linter.unusedVariables false
/-! ### how often a number occurs -/
def cnt (n : Int) (l : List Int) : Nat := l.countP (fun x => decide (x = n))
theorem spec_count_l0 (n : Int) (t : List Int) (ht : t.length ≤ 140737488351232) (d : Nat) : ∀ (j m : Nat), t.length - j = d → j ≤ t.length → m ≤ j → Ev (fun k => spec_l1Count.l0 k n (m : Int) t (t.length : Int) (j : Int)) ((m + cnt n (t.drop j) : Nat) : Int) := by
  induction d with
  | zero =>
    intro j m hd hj hm
    refine Ev.step (f := fun _ => some (m : Int)) (fun k => by rw [spec_l1Count.l0, if_neg (by omega)]) (ev_some ?_)
    rw [List.drop_eq_nil_of_le (by omega)]; rfl
  | succ d ih =>
    intro j m hd hj hm
    have hlt : j < t.length := by omega
    have e : cnt n (t.drop j) = cnt n (t.drop (j + 1)) + if t[j] = n then 1 else 0 := by
      rw [List.drop_eq_getElem_cons hlt]; unfold cnt; rw [List.countP_cons]; simp
    rw [e]
    by_cases h : t[j] = n
    · rw [if_pos h]
      refine Ev.step (f := fun k => spec_l1Count.l0 k n ((m + 1 : Nat) : Int) t (t.length : Int) ((j + 1 : Nat) : Int)) (fun k => ?_) (by have := ih (j + 1) (m + 1) (by omega) (by omega) (by omega); rwa [show m + (cnt n (t.drop (j + 1)) + 1) = m + 1 + cnt n (t.drop (j + 1)) by omega])
      rw [spec_l1Count.l0, if_pos (by omega), if_pos (by omega), if_pos (by omega), rd_get hlt, if_pos h, w64 (by omega) (by omega), w64 (by omega) (by omega), cast1, cast1]
    · rw [if_neg h]
      refine Ev.step (f := fun k => spec_l1Count.l0 k n (m : Int) t (t.length : Int) ((j + 1 : Nat) : Int)) (fun k => ?_) (ih (j + 1) m (by omega) (by omega) (by omega))
      rw [spec_l1Count.l0, if_pos (by omega), if_pos (by omega), if_pos (by omega), rd_get hlt, if_neg h, w64 (by omega) (by omega), cast1]
theorem spec_count_ev (t : List Int) (n : Int) (ht : t.length ≤ 140737488351232) : Ev (fun k => spec_l1Count.f k t n) (cnt n t : Int) := by
  unfold spec_l1Count.f
  simpa using spec_count_l0 n t ht t.length 0 0 (by omega) (by omega) (by omega)
theorem impl_count_l0 (n : Int) (t : List Int) (ht : t.length ≤ 140737488351232) (d : Nat) : ∀ (j m : Nat), t.length - j = d → j ≤ t.length → m ≤ j → Ev (fun k => impl_count.l0 k n (m : Int) t (t.length : Int) (j : Int)) ((m + cnt n (t.drop j) : Nat) : Int) := by
  induction d with
  | zero =>
    intro j m hd hj hm
    refine Ev.step (f := fun _ => some (m : Int)) (fun k => by rw [impl_count.l0, if_neg (by omega)]) (ev_some ?_)
    rw [List.drop_eq_nil_of_le (by omega)]; rfl
  | succ d ih =>
    intro j m hd hj hm
    have hlt : j < t.length := by omega
    have e : cnt n (t.drop j) = cnt n (t.drop (j + 1)) + if t[j] = n then 1 else 0 := by
      rw [List.drop_eq_getElem_cons hlt]; unfold cnt; rw [List.countP_cons]; simp
    rw [e]
    by_cases h : t[j] = n
    · rw [if_pos h]
      refine Ev.step (f := fun k => impl_count.l0 k n ((m + 1 : Nat) : Int) t (t.length : Int) ((j + 1 : Nat) : Int)) (fun k => ?_) (by have := ih (j + 1) (m + 1) (by omega) (by omega) (by omega); rwa [show m + (cnt n (t.drop (j + 1)) + 1) = m + 1 + cnt n (t.drop (j + 1)) by omega])
      rw [impl_count.l0, if_pos (by omega), if_pos (by omega), if_pos (by omega), rd_get hlt, if_pos h, w64 (by omega) (by omega), w64 (by omega) (by omega), cast1, cast1]
    · rw [if_neg h]
      refine Ev.step (f := fun k => impl_count.l0 k n (m : Int) t (t.length : Int) ((j + 1 : Nat) : Int)) (fun k => ?_) (ih (j + 1) m (by omega) (by omega) (by omega))
      rw [impl_count.l0, if_pos (by omega), if_pos (by omega), if_pos (by omega), rd_get hlt, if_neg h, w64 (by omega) (by omega), cast1]
theorem impl_count_ev (t : List Int) (n : Int) (ht : t.length ≤ 140737488351232) : Ev (fun k => impl_count.f k t n) (cnt n t : Int) := by
  unfold impl_count.f
  simpa using impl_count_l0 n t ht t.length 0 0 (by omega) (by omega) (by omega)
end Go.Proofs.Ytbekhijknpgbbaa.Q

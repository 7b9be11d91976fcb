/- Plain facts: the terms of a clause; no condition but bounds on lengths. -/
import Derived.Test.YtmndmhijemnoeaaQL
import Derived.Test.YtmndmhijemnoeaaQN
import Derived.Test.YtmndmhijemnoeaaGH20
namespace Go.Proofs.Ytmndmhijemnoeaa.Q
open Go.RowKit Go.Proofs.Ytmndmhijemnoeaa.G Go.Proofs.YtmndmhijemnoeaaW.PrintWords Go.Proofs.YtmndmhijemnoeaaW.PrintLast Go.Proofs.YtmndmhijemnoeaaW.PrintMore
set_option linter.unusedVariables false
def termsL : List S58 → List (List Int)
  | [] => []
  | y :: c => y.f1 :: y.f2 :: termsL c
theorem sumLen_terms : ∀ c : List S58, sumLen (termsL c) = sumLit c
  | [] => rfl
  | y :: c => by
    unfold termsL sumLit litLen
    simp only [sumLen]
    rw [sumLen_terms c]
    omega
theorem termsL_len : ∀ c : List S58, (termsL c).length = 2 * c.length
  | [] => rfl
  | y :: c => by
    unfold termsL
    simp only [List.length_cons]
    rw [termsL_len c]
    omega
theorem sumLit_drop (c : List S58) {j : Nat} (h : j < c.length) : sumLit (c.drop j) = c[j].f1.length + c[j].f2.length + sumLit (c.drop (j + 1)) := by
  rw [List.drop_eq_getElem_cons h]; rfl
theorem termsOf_l0 (c : List S58) (hc : c.length ≤ 1048576) (d : Nat) : ∀ (j : Nat) (acc : List (List Int)), c.length - j = d → j ≤ c.length → acc.length ≤ 2 * j → Ev (fun k => impl_termsOf.l0 k acc c (c.length : Int) (j : Int)) (acc ++ termsL (c.drop j)) := by
  induction d with
  | zero =>
    intro j acc hd hj ha
    refine Ev.step (f := fun _ => some acc) (fun k => by rw [impl_termsOf.l0, if_neg (by omega)]) (ev_some ?_)
    rw [List.drop_eq_nil_of_le (by omega)]; simp [termsL]
  | succ d ih =>
    intro j acc hd hj ha
    have hlt : j < c.length := by omega
    have := ih (j + 1) (acc ++ [c[j].f1, c[j].f2]) (by omega) (by omega) (by rw [List.length_append]; simp only [List.length_cons, List.length_nil]; omega)
    rw [List.append_assoc] at this
    rw [List.drop_eq_getElem_cons hlt]
    refine Ev.step (fun k => ?_) this
    rw [impl_termsOf.l0, if_pos (by omega), if_pos (by omega), if_pos (by omega), rdI_get hlt, Option.bind_some, if_pos (by simp only [List.length_cons, List.length_nil]; omega), w64 (by omega) (by omega), cast1]
theorem termsOf_ev (c : List S58) (hc : c.length ≤ 1048576) : Ev (fun k => impl_termsOf.f k c) (termsL c) := by
  unfold impl_termsOf.f
  simpa using termsOf_l0 c hc c.length 0 [] (by omega) (by omega) (by simp)
end Go.Proofs.Ytmndmhijemnoeaa.Q

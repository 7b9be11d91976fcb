/- Plain facts on the functions that this seat's laws use for lists of lists of numbers; no condition but bounds on lengths. -/
import Derived.Test.YtebamddebjehdaaQN
import Derived.Test.YtebamddebjehdaaGH1
import Derived.Test.YtebamddebjehdaaGH9
namespace Go.Proofs.Ytebamddebjehdaa.Q
open Go.RowKit Go.Proofs.Ytebamddebjehdaa.G Go.Proofs.YtebamddebjehdaaW.PrintWords Go.Proofs.YtebamddebjehdaaW.PrintLast Go.Proofs.YtebamddebjehdaaW.PrintMore
set_option linter.unusedVariables false
theorem eqIntSS_l0 (x : List (List Int)) (hx : x.length ≤ 140737488351232) (hxs : ∀ t ∈ x, t.length ≤ 140737488351232) (d : Nat) : ∀ j : Nat, x.length - j = d → j ≤ x.length → Ev (fun k => laws_eqIntSS.l0 k x x (j : Int)) true := by
  induction d with
  | zero =>
    intro j hd hj
    exact Ev.step (f := fun _ => some true) (fun k => by rw [laws_eqIntSS.l0, if_neg (by omega)]) (Ev.now _)
  | succ d ih =>
    intro j hd hj
    have hlt : j < x.length := by omega
    refine Ev.step (f := fun k => (laws_eqIntS.f k x[j] x[j]).bind fun t => if t = true then laws_eqIntSS.l0 k x x ((j + 1 : Nat) : Int) else some false) (fun k => ?_) (Ev.bind (eqIntS_self _ (hxs _ (List.getElem_mem hlt))) (ev_pos rfl (ih (j + 1) (by omega) (by omega))))
    rw [laws_eqIntSS.l0, if_pos (by omega), if_pos (by omega), if_pos (by omega), rd_L1_get hlt, w64 (by omega) (by omega), cast1]
theorem eqIntSS_self (x : List (List Int)) (hx : x.length + sumLen x ≤ 1048576) : Ev (fun k => laws_eqIntSS.f k x x) true := by
  unfold laws_eqIntSS.f
  refine ev_pos rfl ?_
  exact eqIntSS_l0 x (by omega) (fun t ht => by have := sumLen_mem ht; omega) x.length 0 (by omega) (by omega)
end Go.Proofs.Ytebamddebjehdaa.Q

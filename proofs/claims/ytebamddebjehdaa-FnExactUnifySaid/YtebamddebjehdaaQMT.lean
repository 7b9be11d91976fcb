/- Plain facts: marks in lists of lists are found again; no condition but bounds on lengths. -/
import Derived.Test.YtebamddebjehdaaQMS
import Derived.Test.YtebamddebjehdaaGH9
import Derived.Test.YtebamddebjehdaaGH10
namespace Go.Proofs.Ytebamddebjehdaa.Q
open Go.RowKit Go.Proofs.Ytebamddebjehdaa.G Go.Proofs.YtebamddebjehdaaW.PrintWords Go.Proofs.YtebamddebjehdaaW.PrintLast Go.Proofs.YtebamddebjehdaaW.PrintMore
set_option linter.unusedVariables false
theorem heldIntSS_l0 : ∀ (rest : List (List Int)) (pre : List (List Int)) (a : Int), 0 ≤ a → a + (sumLen rest : Int) ≤ 4611686018427387904 → pre.length + rest.length ≤ 4611686018427387904 →
    Ev (fun k => laws_heldIntSS.l0 k (pre ++ msS a rest) a (pre.length : Int)) (a + (sumLen rest : Int)) := by
  intro rest
  induction rest with
  | nil =>
    intro pre a ha hb hl
    refine Ev.step (f := fun _ => some a) (fun k => ?_) (ev_some (by simp [sumLen]))
    rw [laws_heldIntSS.l0, if_neg (by simp [msS])]
  | cons x rest ih =>
    intro pre a ha hb hl
    simp only [sumLen] at hb ⊢
    simp only [List.length_cons] at hl
    have hg : rd_L1 (pre ++ msS a (x :: rest)) (pre.length : Int) = run a x.length := by
      rw [rd_L1_get (by simp [msS])]; simp [msS]
    have hh := heldIntS_ev x.length a ha (by omega)
    have ih' := ih (pre ++ [run a x.length]) (a + (x.length : Int)) (by omega) (by omega) (by simp; omega)
    refine Ev.step (f := fun k => (laws_heldIntS.f k (run a x.length) a).bind fun t => if t < 0 then some (-1) else laws_heldIntSS.l0 k (pre ++ msS a (x :: rest)) t ((pre.length : Int) + 1)) (fun k => ?_) (Ev.bind hh (ev_neg (by omega) ?_))
    · rw [laws_heldIntSS.l0, if_pos (by simp [msS]; omega), if_pos (by omega), hg]
      congr 1
      funext t
      rw [w64 (by omega) (by omega)]
    · have e : pre ++ msS a (x :: rest) = (pre ++ [run a x.length]) ++ msS (a + (x.length : Int)) rest := by simp [msS]
      rw [e]
      have e2 : (pre.length : Int) + 1 = (((pre ++ [run a x.length]).length : Nat) : Int) := by simp
      rw [e2]
      have e3 : a + ((x.length + sumLen rest : Nat) : Int) = a + (x.length : Int) + (sumLen rest : Int) := by omega
      rw [e3]
      exact ih'
theorem heldIntSS_ev (l : List (List Int)) (a : Int) (ha : 0 ≤ a) (hb : a + (l.length : Int) + (sumLen l : Int) ≤ 4611686018427387904) : Ev (fun k => laws_heldIntSS.f k (msS a l) a) (a + (sumLen l : Int)) := by
  unfold laws_heldIntSS.f
  simpa using heldIntSS_l0 l [] a ha (by omega) (by simp; omega)
end Go.Proofs.Ytebamddebjehdaa.Q

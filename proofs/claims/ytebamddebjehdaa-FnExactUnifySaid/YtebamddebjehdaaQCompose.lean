/- Plain facts: substitutions, one behind the other; no condition but bounds on lengths. -/
import Derived.Test.YtebamddebjehdaaQ7
import Derived.Test.YtebamddebjehdaaQUp
namespace Go.Proofs.Ytebamddebjehdaa.Q
open Go.RowKit Go.Proofs.Ytebamddebjehdaa.G Go.Proofs.YtebamddebjehdaaW.PrintWords Go.Proofs.YtebamddebjehdaaW.PrintLast Go.Proofs.YtebamddebjehdaaW.PrintMore
set_option linter.unusedVariables false
def tOf (a : List (List Int)) (v : Nat) : List Int := if (rd_L1 a (v : Int)).length = 0 then [-1 - (v : Int)] else rd_L1 a (v : Int)
def stay (v : Nat) (x : List Int) : List Int := if x = [-1 - (v : Int)] then [] else x
def compF (a b : List (List Int)) (v : Nat) : List Int := stay v (applyL b (tOf a v))
def compOk (a b : List (List Int)) (m : Nat) : Prop := ∀ v, v < m → (applyL b (tOf a v)).length ≤ 40
instance (a b : List (List Int)) (m : Nat) : Decidable (compOk a b m) := inferInstanceAs (Decidable (∀ v, v < m → _))
def ComposeV (s : List Int) (a b : List (List Int)) : List (List Int) × Bool :=
  if goodSubst s a = true ∧ goodSubst s b = true then (if compOk a b 12 then ((List.range 12).map (compF a b), true) else ([], false)) else ([], false)
theorem goodSubst_len {s : List Int} {a : List (List Int)} (h : goodSubst s a = true) : a.length = 12 := by
  unfold goodSubst at h
  simp only [Bool.and_eq_true, decide_eq_true_eq] at h
  exact h.1.2
theorem tOf_isTerm {s : List Int} {a : List (List Int)} (h : goodSubst s a = true) {v : Nat} (hv : v < 12) : isTerm s (tOf a v) = true := by
  unfold goodSubst at h
  simp only [Bool.and_eq_true, decide_eq_true_eq, List.all_eq_true] at h
  have hlt : v < a.length := by omega
  have hs := h.2 _ (List.getElem_mem hlt)
  unfold tOf
  rw [rd_L1_get hlt]
  unfold substOk at hs
  by_cases h0 : a[v].length = 0
  · rw [if_pos h0]
    unfold isTerm
    have ho : okSym s (-1 - (v : Int)) = true := by
      unfold okSym
      simp only [Bool.and_eq_true, decide_eq_true_eq]
      omega
    have ha : ar s (-1 - (v : Int)) = 0 := by unfold ar; rw [if_pos (by omega)]
    rw [scan_cons, if_pos ho, ha, Nat.add_zero, scan_zero]
    rfl
  · rw [if_neg h0]
    simpa [h0] using hs
end Go.Proofs.Ytebamddebjehdaa.Q

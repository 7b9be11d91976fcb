/- Plain facts: substitutions, one behind the other; no condition but bounds on lengths. -/
import Derived.Test.YtbekhijknpgbbaaQ7
import Derived.Test.YtbekhijknpgbbaaGH53
import Derived.Test.YtbekhijknpgbbaaGH55
namespace Go.Proofs.Ytbekhijknpgbbaa.Q
open Go.RowKit Go.Proofs.Ytbekhijknpgbbaa.G Go.Proofs.YtbekhijknpgbbaaW.PrintWords Go.Proofs.YtbekhijknpgbbaaW.PrintLast Go.Proofs.YtbekhijknpgbbaaW.PrintMore
set_option linter.unusedVariables false
/-- Twelve rows of which the first ones are told. -/
def upTo (m : Nat) (f : Nat → List Int) (j : Nat) : List (List Int) := (List.range m).map (fun i => if i < j then f i else [])
theorem upTo_len (m : Nat) (f : Nat → List Int) (j : Nat) : (upTo m f j).length = m := by simp [upTo]
theorem upTo_zero (m : Nat) (f : Nat → List Int) : upTo m f 0 = List.replicate m [] := by
  unfold upTo
  apply List.ext_getElem (by simp)
  intro i h1 h2
  simp
theorem upTo_set (m : Nat) (f : Nat → List Int) (j : Nat) : (upTo m f j).set j (f j) = upTo m f (j + 1) := by
  apply List.ext_getElem (by simp [upTo])
  intro i h1 h2
  by_cases e : j = i
  · subst e
    simp [upTo]
  · rw [List.getElem_set_ne e]
    simp only [upTo, List.getElem_map, List.getElem_range]
    by_cases h : i < j
    · rw [if_pos h, if_pos (by omega)]
    · rw [if_neg h, if_neg (by omega)]
theorem upTo_skip (m : Nat) (f : Nat → List Int) (j : Nat) (h0 : f j = []) : upTo m f j = upTo m f (j + 1) := by
  unfold upTo
  apply List.map_congr_left
  intro i _
  by_cases e : i = j
  · subst e; simp [h0]
  · by_cases h : i < j
    · rw [if_pos h, if_pos (by omega)]
    · rw [if_neg h, if_neg (by omega)]
theorem upTo_full (m : Nat) (f : Nat → List Int) : upTo m f m = (List.range m).map f := by
  unfold upTo
  apply List.map_congr_left
  intro i hi
  rw [if_pos (List.mem_range.1 hi)]
def tOf (a : List (List Int)) (v : Nat) : List Int := if (rd_L1 a (v : Int)).length = 0 then [-1 - (v : Int)] else rd_L1 a (v : Int)
def stay (v : Nat) (x : List Int) : List Int := if x = [-1 - (v : Int)] then [] else x
def compF (a b : List (List Int)) (v : Nat) : List Int := stay v (applyL b (tOf a v))
def compOk (a b : List (List Int)) (m : Nat) : Prop := ∀ v, v < m → (applyL b (tOf a v)).length ≤ 40
instance (a b : List (List Int)) (m : Nat) : Decidable (compOk a b m) := inferInstanceAs (Decidable (∀ v, v < m → _))
def ComposeV (s : List Int) (a b : List (List Int)) : List (List Int) × Bool :=
  if goodSubst s a = true ∧ goodSubst s b = true then (if compOk a b 12 then ((List.range 12).map (compF a b), true) else ([], false)) else ([], false)
theorem l2Stay_f (v : Nat) (hv : v < 12) (x : List Int) : spec_l2Stay.f (v : Int) x = some (stay v x) := by
  unfold spec_l2Stay.f stay
  rw [w64 (by omega) (by omega)]
  match x with
  | [] => simp
  | [n] =>
    rw [if_pos (by simp), if_pos (by simp)]
    have : rd [n] 0 = n := rfl
    rw [this]
    by_cases h : n = -1 - (v : Int)
    · rw [if_pos h, if_pos (by rw [h])]
    · rw [if_neg h, if_neg (by simpa using h)]
  | n :: m :: r =>
    rw [if_neg (by simp only [List.length_cons]; omega), if_neg (by simp)]
theorem isItself_f (v : Nat) (hv : v < 12) (x : List Int) : impl_isItself.f x (v : Int) = some (decide (x = [-1 - (v : Int)])) := by
  unfold impl_isItself.f
  rw [w64 (by omega) (by omega)]
  match x with
  | [] => simp
  | [n] =>
    rw [if_pos (by simp), if_pos (by simp)]
    have : rd [n] 0 = n := rfl
    rw [this]
    simp only [List.cons.injEq, and_true, Option.some.injEq]
    rw [Bool.eq_iff_iff]; simp
  | n :: m :: r =>
    rw [if_neg (by simp only [List.length_cons]; omega)]
    simp
theorem goodSubst_len {s : List Int} {a : List (List Int)} (h : goodSubst s a = true) : a.length = 12 := by
  unfold goodSubst at h
  simp only [Bool.and_eq_true, decide_eq_true_eq] at h
  exact h.1.2
theorem tOf_isTerm {s : List Int} {a : List (List Int)} (h : goodSubst s a = true) {v : Nat} (hv : v < 12) : isTerm s (tOf a v) = true := by
  unfold goodSubst at h
  simp only [Bool.and_eq_true, decide_eq_true_eq, List.all_eq_true] at h
  have hlt : v < a.length := by omega
  have hs := h.2 _ (List.getElem_mem hlt)
  unfold tOf
  rw [rd_L1_get hlt]
  unfold substOk at hs
  by_cases h0 : a[v].length = 0
  · rw [if_pos h0]
    unfold isTerm
    have ho : okSym s (-1 - (v : Int)) = true := by
      unfold okSym
      simp only [Bool.and_eq_true, decide_eq_true_eq]
      omega
    have ha : ar s (-1 - (v : Int)) = 0 := by unfold ar; rw [if_pos (by omega)]
    rw [scan_cons, if_pos ho, ha, Nat.add_zero, scan_zero]
    rfl
  · rw [if_neg h0]
    simpa [h0] using hs
end Go.Proofs.Ytbekhijknpgbbaa.Q

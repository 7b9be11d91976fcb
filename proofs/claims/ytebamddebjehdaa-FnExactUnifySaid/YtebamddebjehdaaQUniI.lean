/- Plain facts: the program's loop of unification; no condition but bounds on lengths. -/
import Derived.Test.YtebamddebjehdaaQUniE
namespace Go.Proofs.Ytebamddebjehdaa.Q
open Go.RowKit Go.Proofs.Ytebamddebjehdaa.G Go.Proofs.YtebamddebjehdaaW.PrintWords Go.Proofs.YtebamddebjehdaaW.PrintLast Go.Proofs.YtebamddebjehdaaW.PrintMore
set_option linter.unusedVariables false
/-- What one round does to a row. -/
def bindR (v : Nat) (t r : List Int) : List Int := if r = [] then [] else applyL (oneB v t) r
/-- The first k rows with the term put in. -/
def mixB (f : List (List Int)) (v : Nat) (t : List Int) (k : Nat) : List (List Int) := (f.take k).map (bindR v t) ++ f.drop k
theorem mixB_len (f : List (List Int)) (v : Nat) (t : List Int) (k : Nat) : (mixB f v t k).length = f.length := by
  unfold mixB
  rw [List.length_append, List.length_map, List.length_take, List.length_drop]
  omega
theorem mixB_zero (f : List (List Int)) (v : Nat) (t : List Int) : mixB f v t 0 = f := by unfold mixB; rw [List.take_zero, List.drop_zero]; rfl
theorem mixB_get {f : List (List Int)} {v : Nat} {t : List Int} {k : Nat} (h : k < f.length) : rd_L1 (mixB f v t k) (k : Int) = rd_L1 f (k : Int) := by
  rw [rd_L1_get (by rw [mixB_len]; exact h), rd_L1_get h]
  unfold mixB
  rw [List.getElem_append_right (by rw [List.length_map, List.length_take]; omega), List.getElem_drop]
  congr 1
  rw [List.length_map, List.length_take]
  omega
theorem mixB_succ {f : List (List Int)} {v : Nat} {t : List Int} {k : Nat} (h : k < f.length) : (mixB f v t k).set k (bindR v t (rd_L1 f (k : Int))) = mixB f v t (k + 1) := by
  unfold mixB
  rw [List.set_append_right _ _ (by rw [List.length_map, List.length_take]; omega), List.length_map, List.length_take, Nat.min_eq_left (by omega), Nat.sub_self, List.drop_eq_getElem_cons h, List.set_cons_zero, List.take_succ_eq_append_getElem h, List.map_append, rd_L1_get h]
  simp
theorem mixB_skip {f : List (List Int)} {v : Nat} {t : List Int} {k : Nat} (h : k < f.length) (h0 : rd_L1 f (k : Int) = []) : mixB f v t k = mixB f v t (k + 1) := by
  rw [← mixB_succ h, h0]
  have e : bindR v t [] = (mixB f v t k)[k]'(by rw [mixB_len]; exact h) := by
    rw [← rd_L1_get (by rw [mixB_len]; exact h), mixB_get h, h0]
    rfl
  rw [e, List.set_getElem_self]
theorem mixB_full {f : List (List Int)} {v : Nat} {t : List Int} (hf : f.length = 12) : (mixB f v t 12).set v t = bindF f v t := by
  unfold mixB bindF
  rw [List.take_of_length_le (by omega), List.drop_eq_nil_of_le (by omega), List.append_nil]
  rfl
theorem short_row {f : List (List Int)} {v : Nat} {t : List Int} {x y : List Int} {k : Nat} (hf : f.length = 12) (hv : v < 12) (hk : k < 12) (hfv : rd_L1 f (v : Int) = []) (h0 : rd_L1 f (k : Int) ≠ []) (h : ¬ (applyL (oneB v t) (rd_L1 f (k : Int))).length ≤ 40) : ¬ short (bindF f v t) x y = true := by
  intro hs
  apply h
  have hkv : k ≠ v := fun e => h0 (by rw [e]; exact hfv)
  have hb := rd_bind (t := t) hf hv hk
  rw [if_neg hkv, if_neg h0] at hb
  rw [← hb, rd_L1_get (by rw [bindF_len]; omega)]
  exact (short_iff.1 hs).1 _ (List.getElem_mem _)
theorem short_all {f : List (List Int)} {v : Nat} {t : List Int} {x y : List Int} (hf : f.length = 12) (hv : v < 12) (ht : t.length ≤ 40) (hx : x.length ≤ 40) (hy : y.length ≤ 40) (h : ∀ k : Nat, k < 12 → rd_L1 f (k : Int) ≠ [] → (applyL (oneB v t) (rd_L1 f (k : Int))).length ≤ 40) : short (bindF f v t) x y = true := by
  refine short_iff.2 ⟨fun r hr => ?_, hx, hy⟩
  obtain ⟨k, hk, rfl⟩ := List.getElem_of_mem hr
  rw [bindF_len] at hk
  have hb := rd_bind (t := t) hf hv (show k < 12 by omega)
  rw [rd_L1_get (by rw [bindF_len]; omega)] at hb
  rw [hb]
  split
  · exact ht
  · split
    · simp
    · rename_i h0
      exact h k (by omega) h0
theorem headV_no {s : List Int} {f : List (List Int)} {x y : List Int} (h : ¬ short f x y = true) : headV s f x y = none := by unfold headV; rw [if_neg h]
theorem headV_yes {s : List Int} {f : List (List Int)} {x y : List Int} (h : short f x y = true) : headV s f x y = uni s (unb f + 1) f x y := by unfold headV; rw [if_pos h]
theorem appliedV_ok {b : List (List Int)} {t : List Int} : (appliedV b t).2 = true ↔ (applyL b t).length ≤ 40 := by
  unfold appliedV
  split <;> simp_all
theorem appliedV_fst {b : List (List Int)} {t : List Int} (h : (applyL b t).length ≤ 40) : (appliedV b t).1 = applyL b t := by
  unfold appliedV
  rw [if_pos h]
theorem min_pick (x y : Int) : (if y < x then y else x) = -1 - (((-1 - (if y < x then y else x)).toNat : Nat) : Int) ∨ 0 ≤ (if y < x then y else x) := by split <;> omega
end Go.Proofs.Ytebamddebjehdaa.Q

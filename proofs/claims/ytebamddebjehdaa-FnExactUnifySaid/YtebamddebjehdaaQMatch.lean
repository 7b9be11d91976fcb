/- Plain facts: a pattern held against a term; no condition but bounds on lengths. -/
import Derived.Test.YtebamddebjehdaaQCompose
import Derived.Test.YtebamddebjehdaaQReplaceAt
namespace Go.Proofs.Ytebamddebjehdaa.Q
open Go.RowKit Go.Proofs.Ytebamddebjehdaa.G Go.Proofs.YtebamddebjehdaaW.PrintWords Go.Proofs.YtebamddebjehdaaW.PrintLast Go.Proofs.YtebamddebjehdaaW.PrintMore
set_option linter.unusedVariables false
/-- The first term of a list of symbols. -/
def partT (s t : List Int) : List Int := match scan s t 1 with
  | some r => t.take (t.length - r.length)
  | none => []
def matchL (s : List Int) : List Int → List Int → List (List Int) → Option (List (List Int))
  | [], _, b => some b
  | n :: p, t, b =>
    if 0 ≤ n then (if n = rd t 0 then matchL s p (t.drop 1) b else none)
    else if 0 < (rd_L1 b (-1 - n)).length ∧ rd_L1 b (-1 - n) ≠ partT s t then none
    else matchL s p (t.drop (partT s t).length) (b.set (-1 - n).toNat (partT s t))
/-- Where both stand: the same number of terms is still to come. -/
def inStep (s p t : List Int) (i j : Nat) : Prop := i ≤ p.length ∧ j ≤ t.length ∧ ∃ m, scan s (p.drop i) m = some [] ∧ scan s (t.drop j) m = some []
theorem inStep_zero {s p t : List Int} (hp : isTerm s p = true) (ht : isTerm s t = true) : inStep s p t 0 0 := ⟨by omega, by omega, 1, (isTerm_parts hp).2.1, (isTerm_parts ht).2.1⟩
theorem inStep_lt {s p t : List Int} {i j : Nat} (h : inStep s p t i j) (hi : i < p.length) : j < t.length := by
  obtain ⟨h1, h2, m, h3, h4⟩ := h
  rw [List.drop_eq_getElem_cons hi] at h3
  cases m with
  | zero => rw [scan_zero] at h3; cases h3
  | succ m =>
    refine Nat.lt_of_le_of_ne h2 (fun e => ?_)
    rw [e, List.drop_eq_nil_of_le (by omega), scan_nil] at h4
    cases h4
theorem inStep_end {s p t : List Int} {i j : Nat} (h : inStep s p t i j) (hi : ¬ i < p.length) : j = t.length := by
  obtain ⟨h1, h2, m, h3, h4⟩ := h
  rw [List.drop_eq_nil_of_le (by omega)] at h3
  cases m with
  | zero =>
    rw [scan_zero] at h4
    have := congrArg List.length (Option.some.inj h4)
    rw [List.length_drop, List.length_nil] at this
    omega
  | succ m => rw [scan_nil] at h3; cases h3
theorem inStep_sym {s p t : List Int} {i j : Nat} (h : inStep s p t i j) (hi : i < p.length) (hj : j < t.length) (he : p[i] = t[j]) : inStep s p t (i + 1) (j + 1) := by
  obtain ⟨h1, h2, m, h3, h4⟩ := h
  cases m with
  | zero => rw [List.drop_eq_getElem_cons hi, scan_zero] at h3; cases h3
  | succ m =>
    rw [scan_step hi] at h3
    rw [scan_step hj] at h4
    split at h3
    · split at h4
      · exact ⟨hi, hj, m + ar s p[i], h3, by rw [he]; exact h4⟩
      · cases h4
    · cases h3
theorem partT_facts {s t : List Int} {j m : Nat} (h : scan s (t.drop j) (m + 1) = some []) (hj : j < t.length) : ∃ r, scan s (t.drop j) 1 = some r ∧ scan s r m = some [] ∧ r = t.drop (j + (partT s (t.drop j)).length) ∧ j + (partT s (t.drop j)).length ≤ t.length ∧ 0 < (partT s (t.drop j)).length ∧ (partT s (t.drop j)) = (t.drop j).take (partT s (t.drop j)).length ∧ r.length + (j + (partT s (t.drop j)).length) = t.length := by
  rw [show m + 1 = 1 + m by omega, scan_add] at h
  cases hr : scan s (t.drop j) 1 with
  | none => rw [hr] at h; cases h
  | some r =>
    rw [hr] at h
    obtain ⟨q, hq⟩ := scan_suffix s _ _ _ hr
    have hl := congrArg List.length hq
    rw [List.length_drop, List.length_append] at hl
    have hp : partT s (t.drop j) = q := by
      unfold partT
      rw [hr]
      simp only
      rw [hq, List.length_append, Nat.add_sub_cancel, List.take_left]
    have hq0 : 0 < q.length := by
      cases q with
      | nil =>
        rw [List.nil_append] at hq
        rw [List.drop_eq_getElem_cons hj] at hr hq
        rw [scan_cons] at hr
        split at hr
        · rw [Nat.zero_add] at hr
          have := scan_len hr
          rw [← hq] at this
          simp at this
          omega
        · cases hr
      | cons a l => simp
    refine ⟨r, rfl, h, ?_, by rw [hp]; omega, by rw [hp]; exact hq0, by rw [hp, hq, List.take_left], by rw [hp]; omega⟩
    rw [hp, ← List.drop_drop, hq, List.drop_left]
theorem inStep_var {s p t : List Int} {i j : Nat} (h : inStep s p t i j) (hi : i < p.length) (hj : j < t.length) (hn : p[i] < 0) : inStep s p t (i + 1) (j + (partT s (t.drop j)).length) ∧ ∃ r, scan s (t.drop j) 1 = some r ∧ r = t.drop (j + (partT s (t.drop j)).length) ∧ 0 < (partT s (t.drop j)).length ∧ j + (partT s (t.drop j)).length ≤ t.length ∧ r.length + (j + (partT s (t.drop j)).length) = t.length := by
  obtain ⟨h1, h2, m, h3, h4⟩ := h
  cases m with
  | zero => rw [List.drop_eq_getElem_cons hi, scan_zero] at h3; cases h3
  | succ m =>
    rw [scan_step hi] at h3
    obtain ⟨r, r1, r2, r3, r4, r5, r6, r7⟩ := partT_facts h4 hj
    split at h3
    · refine ⟨⟨hi, r4, m, ?_, by rw [← r3]; exact r2⟩, r, r1, r3, r5, r4, r7⟩
      have : ar s p[i] = 0 := by unfold ar; rw [if_pos hn]
      rw [this, Nat.add_zero] at h3
      exact h3
    · cases h3
/-- What Match answers. -/
def stayAll (b : List (List Int)) : List (List Int) := (List.range 12).map (fun v => stay v (rd_L1 b (v : Int)))
def MatchV (s p t : List Int) : List (List Int) × Bool :=
  if goodTerm s p = true ∧ isTerm s t = true then (match matchL s p t (List.replicate 12 []) with | some b => (stayAll b, true) | none => ([], false)) else ([], false)
end Go.Proofs.Ytebamddebjehdaa.Q

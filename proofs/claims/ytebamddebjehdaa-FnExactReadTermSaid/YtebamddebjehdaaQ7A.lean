/- Plain facts: substitutions, applied; no condition but bounds on lengths. -/
import Derived.Test.YtebamddebjehdaaQ6
import Derived.Test.YtebamddebjehdaaQS
import Derived.Test.YtebamddebjehdaaGH5
import Derived.Test.YtebamddebjehdaaGH8
namespace Go.Proofs.Ytebamddebjehdaa.Q
open Go.RowKit Go.Proofs.Ytebamddebjehdaa.G Go.Proofs.YtebamddebjehdaaW.PrintWords Go.Proofs.YtebamddebjehdaaW.PrintLast Go.Proofs.YtebamddebjehdaaW.PrintMore
set_option linter.unusedVariables false
def sub1 (b : List (List Int)) (n : Int) : List Int := if n < 0 ∧ 0 < (rd_L1 b (-1 - n)).length then rd_L1 b (-1 - n) else [n]
def applyL (b : List (List Int)) : List Int → List Int
  | [] => []
  | n :: t => sub1 b n ++ applyL b t
theorem scan_append (s w : List Int) : ∀ (l : List Int) (m : Nat) (r : List Int), scan s l m = some r → scan s (l ++ w) m = some (r ++ w)
  | l, 0, r, h => by rw [scan_zero] at h ⊢; cases h; rfl
  | [], m + 1, r, h => by simp [scan_nil] at h
  | n :: t, m + 1, r, h => by
    rw [List.cons_append, scan_cons]
    rw [scan_cons] at h
    by_cases hs : okSym s n = true
    · rw [if_pos hs] at h ⊢
      exact scan_append s w t _ r h
    · rw [if_neg hs] at h; cases h
theorem sub1_ok {s : List Int} {b : List (List Int)} (hb : goodSubst s b = true) {n : Int} (hn : okSym s n = true) : (sub1 b n = [n] ∨ (n < 0 ∧ isTerm s (sub1 b n) = true)) ∧ (n < 0 → 0 ≤ -1 - n ∧ -1 - n < (b.length : Int)) ∧ (sub1 b n).length ≤ 40 ∧ 1 ≤ (sub1 b n).length := by
  unfold goodSubst at hb
  simp only [Bool.and_eq_true, decide_eq_true_eq, List.all_eq_true] at hb
  unfold okSym at hn
  simp only [Bool.and_eq_true, decide_eq_true_eq] at hn
  have hi : n < 0 → 0 ≤ -1 - n ∧ -1 - n < (b.length : Int) := fun h => by omega
  unfold sub1
  by_cases h : n < 0 ∧ 0 < (rd_L1 b (-1 - n)).length
  · rw [if_pos h]
    have hi' := hi h.1
    obtain ⟨j, hj⟩ : ∃ j : Nat, (-1 - n) = (j : Int) := ⟨(-1 - n).toNat, by omega⟩
    have hlt : j < b.length := by omega
    have hs := hb.2 _ (List.getElem_mem hlt)
    rw [hj, rd_L1_get hlt] at h ⊢
    unfold substOk at hs
    rw [decide_eq_false (show ¬ b[j].length = 0 by omega), Bool.false_or] at hs
    have h2 := hs
    unfold isTerm at h2
    simp only [Bool.and_eq_true, decide_eq_true_eq] at h2
    rw [← hj]
    exact ⟨.inr ⟨h.1, hs⟩, hi, h2.1, by omega⟩
  · rw [if_neg h]
    exact ⟨.inl rfl, hi, by simp, by simp⟩
theorem scan_apply {s : List Int} {b : List (List Int)} (hb : goodSubst s b = true) : ∀ (l : List Int) (m : Nat) (r : List Int), scan s l m = some r → scan s (applyL b l) m = some (applyL b r)
  | l, 0, r, h => by rw [scan_zero] at h ⊢; cases h; rfl
  | [], m + 1, r, h => by simp [scan_nil] at h
  | n :: t, m + 1, r, h => by
    rw [scan_cons] at h
    by_cases hs : okSym s n = true
    · rw [if_pos hs] at h
      have ih := scan_apply hb t _ r h
      obtain ⟨h1, h2, h3, h4⟩ := sub1_ok hb hs
      unfold applyL
      rcases h1 with h1 | ⟨hn, h1⟩
      · rw [h1, List.singleton_append, scan_cons, if_pos hs]
        rw [ih]
        cases r <;> rfl
      · have ha : ar s n = 0 := by unfold ar; rw [if_pos hn]
        rw [ha, Nat.add_zero] at ih
        unfold isTerm at h1
        simp only [Bool.and_eq_true, decide_eq_true_eq] at h1
        rw [show m + 1 = 1 + m by omega, scan_add, scan_append s (applyL b t) _ _ _ h1.2]
        rw [Option.bind_some, List.nil_append, ih]
        cases r <;> rfl
    · rw [if_neg hs] at h; cases h
theorem applyL_len {s : List Int} {b : List (List Int)} (hb : goodSubst s b = true) : ∀ (l : List Int), (∀ n ∈ l, okSym s n = true) → (applyL b l).length ≤ 40 * l.length
  | [], _ => by simp [applyL]
  | n :: t, h => by
    unfold applyL
    have := (sub1_ok hb (h n List.mem_cons_self)).2.2.1
    have := applyL_len hb t (fun x hx => h x (List.mem_cons_of_mem _ hx))
    simp only [List.length_append, List.length_cons]
    omega
theorem spec_Apply_l0 {s : List Int} {b : List (List Int)} (hb : goodSubst s b = true) (t : List Int) (ht : t.length ≤ 1000) (ho : ∀ n ∈ t, okSym s n = true) (hlow : ∀ n ∈ t, n ≤ 1000000000) (d : Nat) : ∀ (j : Nat) (acc : List Int), t.length - j = d → j ≤ t.length → acc.length ≤ 40 * j →
    Ev (fun k => spec_l2Apply.l0 k b acc t (t.length : Int) (j : Int)) (acc ++ applyL b (t.drop j)) := by
  induction d with
  | zero =>
    intro j acc hd hj ha
    refine Ev.step (f := fun _ => some acc) (fun k => by rw [spec_l2Apply.l0, if_neg (by omega)]) (ev_some ?_)
    rw [List.drop_eq_nil_of_le (by omega)]; simp [applyL]
  | succ d ih =>
    intro j acc hd hj ha
    have hlt : j < t.length := by omega
    have hn := ho _ (List.getElem_mem hlt)
    have hn2 := hlow _ (List.getElem_mem hlt)
    obtain ⟨h1, h2, h3, h4⟩ := sub1_ok hb hn
    have e : applyL b (t.drop j) = sub1 b t[j] ++ applyL b (t.drop (j + 1)) := by rw [List.drop_eq_getElem_cons hlt]; rfl
    rw [e, ← List.append_assoc]
    unfold okSym at hn
    simp only [Bool.and_eq_true, decide_eq_true_eq] at hn
    refine Ev.step (f := fun k => spec_l2Apply.l0 k b (acc ++ sub1 b t[j]) t (t.length : Int) ((j + 1 : Nat) : Int)) (fun k => ?_) (ih (j + 1) (acc ++ sub1 b t[j]) (by omega) (by omega) (by rw [List.length_append]; omega))
    rw [spec_l2Apply.l0, if_pos (by omega), if_pos (by omega), if_pos (by omega), rd_get hlt, w64 (by omega) (by omega), w64 (by omega) (by omega), cast1]
    by_cases hneg : t[j] < 0
    · have hi := h2 hneg
      rw [if_pos hneg, if_pos hi.1, if_pos hi.2]
      by_cases hlen : 0 < (rd_L1 b (-1 - t[j])).length
      · have hsub : sub1 b t[j] = rd_L1 b (-1 - t[j]) := by unfold sub1; rw [if_pos ⟨hneg, hlen⟩]
        rw [hsub] at h3 ⊢
        rw [if_pos (by omega), if_pos (by omega)]
      · have hsub : sub1 b t[j] = [t[j]] := by unfold sub1; rw [if_neg (fun h => hlen h.2)]
        rw [if_neg (by omega), if_pos (by omega), hsub]
    · have hsub : sub1 b t[j] = [t[j]] := by unfold sub1; rw [if_neg (fun h => hneg h.1)]
      rw [if_neg hneg, if_pos (by omega), hsub]
theorem goodSubst_sign {s : List Int} {b : List (List Int)} (hb : goodSubst s b = true) : goodSign s = true := by
  unfold goodSubst at hb
  simp only [Bool.and_eq_true] at hb
  exact hb.1.1
theorem spec_l2Apply_ev {s t : List Int} {b : List (List Int)} (hb : goodSubst s b = true) (ht : isTerm s t = true) : Ev (fun k => spec_l2Apply.f k b t) (applyL b t) := by
  obtain ⟨h1, h2, h3⟩ := isTerm_parts ht
  have hs := goodSign_len (goodSubst_sign hb)
  unfold spec_l2Apply.f
  simpa using spec_Apply_l0 hb t (by omega) h3 (fun n hn => sym_high (by omega) (h3 n hn)) t.length 0 [] (by omega) (by omega) (by simp)
def appliedV (b : List (List Int)) (t : List Int) : List Int × Bool := if (applyL b t).length ≤ 40 then (applyL b t, true) else ([], false)
theorem applied_isTerm {s t : List Int} {b : List (List Int)} (hb : goodSubst s b = true) (ht : isTerm s t = true) : isTerm s (applyL b t) = decide ((applyL b t).length ≤ 40) := by
  unfold isTerm
  have := scan_apply hb t 1 [] (isTerm_parts ht).2.1
  rw [this]
  simp [applyL]
theorem impl_Apply_l0 {s : List Int} {b : List (List Int)} (hb : goodSubst s b = true) (t : List Int) (ht : t.length ≤ 1000) (ho : ∀ n ∈ t, okSym s n = true) (hlow : ∀ n ∈ t, n ≤ 1000000000) (d : Nat) : ∀ (j : Nat) (acc : List Int), t.length - j = d → j ≤ t.length → acc.length ≤ 40 →
    Ev (fun k => impl_apply.l0 k b acc t (t.length : Int) (j : Int)) (if (acc ++ applyL b (t.drop j)).length ≤ 40 then (acc ++ applyL b (t.drop j), true) else ([], false)) := by
  induction d with
  | zero =>
    intro j acc hd hj ha
    refine Ev.step (f := fun _ => some (acc, true)) (fun k => by rw [impl_apply.l0, if_neg (by omega)]) (ev_some ?_)
    rw [List.drop_eq_nil_of_le (by omega), if_pos (by simp [applyL]; omega)]
    simp [applyL]
  | succ d ih =>
    intro j acc hd hj ha
    have hlt : j < t.length := by omega
    have hn := ho _ (List.getElem_mem hlt)
    have hn2 := hlow _ (List.getElem_mem hlt)
    obtain ⟨h1, h2, h3, h4⟩ := sub1_ok hb hn
    have e : applyL b (t.drop j) = sub1 b t[j] ++ applyL b (t.drop (j + 1)) := by rw [List.drop_eq_getElem_cons hlt]; rfl
    rw [e, ← List.append_assoc]
    unfold okSym at hn
    simp only [Bool.and_eq_true, decide_eq_true_eq] at hn
    have K : Ev (fun k => if (((acc ++ sub1 b t[j]).length : Nat) : Int) > 40 then some (([] : List Int), false) else impl_apply.l0 k b (acc ++ sub1 b t[j]) t (t.length : Int) ((j + 1 : Nat) : Int)) (if (acc ++ sub1 b t[j] ++ applyL b (t.drop (j + 1))).length ≤ 40 then (acc ++ sub1 b t[j] ++ applyL b (t.drop (j + 1)), true) else ([], false)) := by
      by_cases hlong : (((acc ++ sub1 b t[j]).length : Nat) : Int) > 40
      · refine ev_pos hlong (ev_some ?_)
        rw [if_neg]
        rw [List.length_append]; omega
      · exact ev_neg hlong (ih (j + 1) _ (by omega) (by omega) (by omega))
    have J : ∀ k, impl_apply.l0 (k + 1) b acc t (t.length : Int) (j : Int) = impl_apply.j1 k b acc t[j] t (t.length : Int) (j : Int) (decide (t[j] < 0 ∧ 0 < (rd_L1 b (-1 - t[j])).length)) := fun k => by
      rw [impl_apply.l0, if_pos (by omega), if_pos (by omega), if_pos (by omega), rd_get hlt, w64 (by omega) (by omega)]
      by_cases hneg : t[j] < 0
      · have hi := h2 hneg
        rw [if_pos hneg, if_pos hi.1, if_pos hi.2]
        simp only [hneg, true_and, gt_iff_lt, Int.natCast_pos]
      · rw [if_neg hneg]
        simp only [hneg, false_and, decide_false]
    refine Ev.step J ?_
    unfold sub1 at K h3 ⊢
    by_cases hc : t[j] < 0 ∧ 0 < (rd_L1 b (-1 - t[j])).length
    · have hi := h2 hc.1
      rw [decide_eq_true hc]
      rw [if_pos hc] at K h3 ⊢
      refine Ev.step (fun k => ?_) K
      rw [impl_apply.j1, if_pos rfl, w64 (by omega) (by omega), if_pos hi.1, if_pos hi.2, if_pos (by omega), Option.bind_some, w64 (by omega) (by omega), cast1]
    · rw [decide_eq_false hc]
      rw [if_neg hc] at K ⊢
      refine Ev.step (fun k => ?_) K
      rw [impl_apply.j1, if_neg (by simp), if_pos (by omega), Option.bind_some, w64 (by omega) (by omega), cast1]
theorem impl_apply_ev {s t : List Int} {b : List (List Int)} (hb : goodSubst s b = true) (ht : isTerm s t = true) : Ev (fun k => impl_apply.f k b t) (appliedV b t) := by
  obtain ⟨h1, h2, h3⟩ := isTerm_parts ht
  have hs := goodSign_len (goodSubst_sign hb)
  unfold impl_apply.f appliedV
  simpa using impl_Apply_l0 hb t (by omega) h3 (fun n hn => sym_high (by omega) (h3 n hn)) t.length 0 [] (by omega) (by omega) (by simp)
end Go.Proofs.Ytebamddebjehdaa.Q

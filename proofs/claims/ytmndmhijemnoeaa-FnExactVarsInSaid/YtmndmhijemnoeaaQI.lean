/- Plain facts: the variables of terms, the program's own way; no condition but bounds on lengths. -/
import Derived.Test.YtmndmhijemnoeaaQV
import Derived.Test.YtmndmhijemnoeaaQN
import Derived.Test.YtmndmhijemnoeaaGH25
import Derived.Test.YtmndmhijemnoeaaGH26
namespace Go.Proofs.Ytmndmhijemnoeaa.Q
open Go.RowKit Go.Proofs.Ytmndmhijemnoeaa.G Go.Proofs.YtmndmhijemnoeaaW.PrintWords Go.Proofs.YtmndmhijemnoeaaW.PrintLast Go.Proofs.YtmndmhijemnoeaaW.PrintMore
set_option linter.unusedVariables false
/-! ### has a list a number -/
theorem Index_l0 (a : Int) (x : List Int) (hx : x.length ≤ 140737488351232) (d : Nat) : ∀ j : Nat, x.length - j = d → j ≤ x.length → ∃ r : Int, Ev (fun k => slices_Index_int_int.l0 k x a (x.length : Int) (j : Int)) r ∧ decide (r ≥ 0) = decide (a ∈ x.drop j) := by
  induction d with
  | zero =>
    intro j hd hj
    refine ⟨-1, Ev.step (f := fun _ => some (-1)) (fun k => by rw [slices_Index_int_int.l0, if_neg (by omega)]) (Ev.now _), ?_⟩
    rw [List.drop_eq_nil_of_le (by omega)]
    rfl
  | succ d ih =>
    intro j hd hj
    have hlt : j < x.length := by omega
    by_cases h : a = x[j]
    · refine ⟨j, Ev.step (f := fun _ => some (j : Int)) (fun k => by rw [slices_Index_int_int.l0, if_pos (by omega), if_pos (by omega), if_pos (by omega), rd_get hlt, if_pos h]) (Ev.now _), ?_⟩
      have hm : a ∈ x.drop j := by rw [List.drop_eq_getElem_cons hlt, ← h]; exact List.mem_cons_self
      rw [decide_eq_true hm, decide_eq_true (by omega)]
    · obtain ⟨r, hr, hd2⟩ := ih (j + 1) (by omega) (by omega)
      refine ⟨r, Ev.step (f := fun k => slices_Index_int_int.l0 k x a (x.length : Int) ((j + 1 : Nat) : Int)) (fun k => ?_) hr, ?_⟩
      · rw [slices_Index_int_int.l0, if_pos (by omega), if_pos (by omega), if_pos (by omega), rd_get hlt, if_neg h, w64 (by omega) (by omega), cast1]
      · rw [hd2, List.drop_eq_getElem_cons hlt, decide_eq_decide, List.mem_cons]
        exact ⟨Or.inr, fun h' => h'.resolve_left h⟩
theorem Contains_ev (x : List Int) (a : Int) (hx : x.length ≤ 140737488351232) : Ev (fun k => slices_Contains_int_int.f k x a) (decide (a ∈ x)) := by
  unfold slices_Contains_int_int.f slices_Index_int_int.f
  obtain ⟨r, hr, hd⟩ := Index_l0 a x hx x.length 0 (by omega) (by omega)
  refine Ev.bind hr (ev_some ?_)
  simpa using hd

theorem varsIn_idx (v : Int) (hv : 0 ≤ v) (hv2 : v ≤ 100) (x : List (List Int)) (hx : x.length ≤ 1000000) (hxs : ∀ t ∈ x, t.length ≤ 140737488351232) (d : Nat) : ∀ j : Nat, x.length - j = d → j ≤ x.length → ∃ r : Int, Ev (fun k => slices_IndexFunc_at_impl_varsIn_c1.l0 k x (x.length : Int) (j : Int) v) r ∧ decide (r ≥ 0) = hasIn (x.drop j) v := by
  induction d with
  | zero =>
    intro j hd hj
    refine ⟨-1, Ev.step (f := fun _ => some (-1)) (fun k => by rw [slices_IndexFunc_at_impl_varsIn_c1.l0, if_neg (by omega)]) (Ev.now _), ?_⟩
    rw [List.drop_eq_nil_of_le (by omega)]
    rfl
  | succ d ih =>
    intro j hd hj
    have hlt : j < x.length := by omega
    have e : hasIn (x.drop j) v = (decide (-1 - v ∈ x[j]) || hasIn (x.drop (j + 1)) v) := by
      rw [List.drop_eq_getElem_cons hlt]; rfl
    have c : Ev (fun k => impl_varsIn_1.f k x[j] v) (decide (-1 - v ∈ x[j])) := by
      unfold impl_varsIn_1.f
      rw [w64 (by omega) (by omega)]
      exact Ev.bind (Contains_ev _ _ (hxs _ (List.getElem_mem hlt))) (Ev.now _)
    rw [e]
    by_cases hb : -1 - v ∈ x[j]
    · rw [decide_eq_true hb] at c ⊢
      refine ⟨j, Ev.step (f := fun k => (impl_varsIn_1.f k x[j] v).bind fun t658 => if t658 = true then some (j : Int) else slices_IndexFunc_at_impl_varsIn_c1.l0 k x (x.length : Int) ((j + 1 : Nat) : Int) v) (fun k => ?_) (Ev.bind c (ev_pos rfl (Ev.now _))), by simp⟩
      rw [slices_IndexFunc_at_impl_varsIn_c1.l0, if_pos (by omega), if_pos (by omega), if_pos (by omega), rd_L2_get hlt, w64 (by omega) (by omega), cast1]
    · rw [decide_eq_false hb] at c ⊢
      obtain ⟨r, hr, hd2⟩ := ih (j + 1) (by omega) (by omega)
      refine ⟨r, Ev.step (f := fun k => (impl_varsIn_1.f k x[j] v).bind fun t658 => if t658 = true then some (j : Int) else slices_IndexFunc_at_impl_varsIn_c1.l0 k x (x.length : Int) ((j + 1 : Nat) : Int) v) (fun k => ?_) (Ev.bind c (ev_neg (by simp) hr)), by simpa using hd2⟩
      rw [slices_IndexFunc_at_impl_varsIn_c1.l0, if_pos (by omega), if_pos (by omega), if_pos (by omega), rd_L2_get hlt, w64 (by omega) (by omega), cast1]
theorem varsIn_has (v : Int) (hv : 0 ≤ v) (hv2 : v ≤ 100) (x : List (List Int)) (hx : x.length ≤ 1000000) (hxs : ∀ t ∈ x, t.length ≤ 140737488351232) : Ev (fun k => slices_ContainsFunc_at_impl_varsIn_c1.f k x v) (hasIn x v) := by
  unfold slices_ContainsFunc_at_impl_varsIn_c1.f slices_IndexFunc_at_impl_varsIn_c1.f
  obtain ⟨r, hr, hd⟩ := varsIn_idx v hv hv2 x hx hxs x.length 0 (by omega) (by omega)
  refine Ev.bind hr (ev_some ?_)
  simpa using hd
theorem varsIn_l0 (x : List (List Int)) (hx : x.length ≤ 1000000) (hxs : ∀ t ∈ x, t.length ≤ 140737488351232) : ∀ (n v : Nat) (acc : List Int), v + n = 12 → acc.length ≤ v → Ev (fun k => impl_varsIn.l0 k x acc (v : Int)) (acc ++ numsFrom (hasIn x) n (v : Int))
  | 0, v, acc, h, ha => by
    refine Ev.step (f := fun _ => some acc) (fun k => by rw [impl_varsIn.l0, if_neg (by omega)]) (ev_some ?_)
    simp [numsFrom]
  | n + 1, v, acc, h, ha => by
    have c := varsIn_has (v : Int) (by omega) (by omega) x hx hxs
    unfold numsFrom
    cases hb : hasIn x (v : Int) with
    | true =>
      rw [hb] at c
      refine Ev.step (f := fun k => (slices_ContainsFunc_at_impl_varsIn_c1.f k x (v : Int)).bind fun t661 => if t661 = true then (if acc.length < 17592186044416 then impl_varsIn.l0 k x (acc ++ [(v : Int)]) ((v + 1 : Nat) : Int) else none) else impl_varsIn.l0 k x acc ((v + 1 : Nat) : Int)) (fun k => ?_) (Ev.bind c (ev_pos rfl (ev_pos (by omega) ?_)))
      · rw [impl_varsIn.l0, if_pos (by omega), w64 (by omega) (by omega), cast1]
      · have := varsIn_l0 x hx hxs n (v + 1) (acc ++ [(v : Int)]) (by omega) (by simp; omega)
        rw [if_pos rfl, cast1]
        simpa using this
    | false =>
      rw [hb] at c
      refine Ev.step (f := fun k => (slices_ContainsFunc_at_impl_varsIn_c1.f k x (v : Int)).bind fun t661 => if t661 = true then (if acc.length < 17592186044416 then impl_varsIn.l0 k x (acc ++ [(v : Int)]) ((v + 1 : Nat) : Int) else none) else impl_varsIn.l0 k x acc ((v + 1 : Nat) : Int)) (fun k => ?_) (Ev.bind c (ev_neg (by simp) ?_))
      · rw [impl_varsIn.l0, if_pos (by omega), w64 (by omega) (by omega), cast1]
      · have := varsIn_l0 x hx hxs n (v + 1) acc (by omega) (by omega)
        rw [if_neg (by simp), cast1]
        exact this
theorem varsIn_ev (x : List (List Int)) (hx : x.length ≤ 1000000) (hxs : ∀ t ∈ x, t.length ≤ 140737488351232) : Ev (fun k => impl_varsIn.f k x) (varsM x) := by
  unfold impl_varsIn.f varsM
  simpa using varsIn_l0 x hx hxs 12 0 [] (by omega) (by simp)
end Go.Proofs.Ytmndmhijemnoeaa.Q

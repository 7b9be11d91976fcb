/- Plain facts on the functions that this seat's laws use for lists of lists of numbers; no condition but bounds on lengths. -/
import Derived.Test.YtbekhijknpgbbaaQN
import Derived.Test.YtbekhijknpgbbaaGH1
import Derived.Test.YtbekhijknpgbbaaGH2
import Derived.Test.YtbekhijknpgbbaaGH13
namespace Go.Proofs.Ytbekhijknpgbbaa.Q
open Go.RowKit Go.Proofs.Ytbekhijknpgbbaa.G Go.Proofs.YtbekhijknpgbbaaW.PrintWords Go.Proofs.YtbekhijknpgbbaaW.PrintLast Go.Proofs.YtbekhijknpgbbaaW.PrintMore
set_option linter.unusedVariables false
theorem szIntSS_l0 (x : List (List Int)) (hx : x.length ≤ 140737488351232) (hxs : ∀ t ∈ x, t.length ≤ 140737488351232) (d : Nat) : ∀ (j : Nat) (a : Int), x.length - j = d → j ≤ x.length → 0 ≤ a → a ≤ 1048576 →
    ∃ z : Int, Ev (fun k => laws_szIntSS.l0 k x a (j : Int)) z ∧ z ≤ a ∧ (0 ≤ z → (sumLen (x.drop j) : Int) + z = a) := by
  induction d with
  | zero =>
    intro j a hd hj ha hb
    refine ⟨a, Ev.step (f := fun _ => some a) (fun k => by rw [laws_szIntSS.l0, if_neg (by omega)]) (Ev.now _), by omega, fun _ => ?_⟩
    rw [List.drop_eq_nil_of_le (by omega)]
    simp [sumLen]
  | succ d ih =>
    intro j a hd hj ha hb
    have hlt : j < x.length := by omega
    have hl := hxs _ (List.getElem_mem hlt)
    by_cases h : a < (x[j].length : Int)
    · refine ⟨-1, Ev.step (f := fun _ => some (-1)) (fun k => ?_) (Ev.now _), by omega, fun h => by omega⟩
      rw [laws_szIntSS.l0, if_pos (by omega), if_pos (by omega), rd_L1_get hlt, szIntS_eq _ _ ha hb hl, Option.bind_some, if_pos h, if_pos (by omega)]
    · obtain ⟨z, hz, h1, h2⟩ := ih (j + 1) (a - (x[j].length : Int)) (by omega) (by omega) (by omega) (by omega)
      refine ⟨z, Ev.step (f := fun k => laws_szIntSS.l0 k x (a - (x[j].length : Int)) ((j + 1 : Nat) : Int)) (fun k => ?_) hz, by omega, fun h => ?_⟩
      · rw [laws_szIntSS.l0, if_pos (by omega), if_pos (by omega), rd_L1_get hlt, szIntS_eq _ _ ha hb hl, Option.bind_some, if_neg h, if_neg (by omega), w64 (by omega) (by omega), cast1]
      · have := h2 h
        rw [List.drop_eq_getElem_cons hlt]
        unfold sumLen
        omega
/-- If the size is not refused, all is small. -/
theorem szIntSS_ev (x : List (List Int)) (a : Int) (ha : 0 ≤ a) (hb : a ≤ 1048576) (hx : x.length ≤ 140737488351232) (hxs : ∀ t ∈ x, t.length ≤ 140737488351232) :
    ∃ z : Int, Ev (fun k => laws_szIntSS.f k x a) z ∧ z ≤ a ∧ (0 ≤ z → (x.length : Int) + (sumLen x : Int) + z = a) := by
  by_cases h : a < (x.length : Int)
  · refine ⟨-1, ?_, by omega, fun h => by omega⟩
    unfold laws_szIntSS.f
    refine ev_pos ?_ (Ev.now _)
    rw [w64 (by omega) (by omega)]; omega
  · obtain ⟨z, hz, h1, h2⟩ := szIntSS_l0 x hx hxs x.length 0 (a - (x.length : Int)) (by omega) (by omega) (by omega) (by omega)
    refine ⟨z, ?_, by omega, fun h => by have := h2 h; rw [List.drop_zero] at this; omega⟩
    unfold laws_szIntSS.f
    rw [w64 (by omega) (by omega)]
    refine ev_neg (by omega) ?_
    simpa using hz
theorem toIntSS_l0 (x : List (List Int)) (hx : x.length ≤ 11728124029610) (hxs : ∀ t ∈ x, t.length ≤ 35184372088832) (d : Nat) : ∀ (j : Nat) (y : List (List Int)), y.length = x.length → x.length - j = d → j ≤ x.length → y.take j = x.take j → Ev (fun k => laws_toIntSS.l0 k x y (j : Int)) x := by
  induction d with
  | zero =>
    intro j y hy hd hj ht
    refine Ev.step (f := fun _ => some y) (fun k => by rw [laws_toIntSS.l0, if_neg (by omega)]) (ev_some ?_)
    have e : j = x.length := by omega
    subst e
    rw [← hy, List.take_length, hy, List.take_length] at ht
    exact ht
  | succ d ih =>
    intro j y hy hd hj ht
    have hlt : j < x.length := by omega
    refine Ev.step (f := fun k => (laws_toIntS.f k x[j]).bind fun t => laws_toIntSS.l0 k x (y.set j t) ((j + 1 : Nat) : Int)) (fun k => ?_) (Ev.bind (toIntS_ev _ (hxs _ (List.getElem_mem hlt))) (ih (j + 1) (y.set j x[j]) (by rw [List.length_set]; exact hy) (by omega) (by omega) ?_))
    · rw [laws_toIntSS.l0, if_pos (by omega), if_pos (by omega), rd_L1_get hlt, w64 (by omega) (by omega), Int.toNat_natCast, cast1]
      simp only [if_pos (show (j : Int) < (y.length : Int) by omega)]
    · rw [List.take_succ_eq_append_getElem (by rw [List.length_set]; omega), List.take_succ_eq_append_getElem hlt, List.getElem_set_self, List.take_set_of_le (Nat.le_refl _), ht]
theorem toIntSS_ev (x : List (List Int)) (hx : x.length + sumLen x ≤ 1048576) : Ev (fun k => laws_toIntSS.f k x) x := by
  unfold laws_toIntSS.f
  refine ev_pos (by omega) (ev_pos (by omega) ?_)
  exact toIntSS_l0 x (by omega) (fun t ht => by have := sumLen_mem ht; omega) x.length 0 _ (by simp) (by omega) (by omega) (by simp)
theorem eqIntSS_l0 (x : List (List Int)) (hx : x.length ≤ 140737488351232) (hxs : ∀ t ∈ x, t.length ≤ 140737488351232) (d : Nat) : ∀ j : Nat, x.length - j = d → j ≤ x.length → Ev (fun k => laws_eqIntSS.l0 k x x (j : Int)) true := by
  induction d with
  | zero =>
    intro j hd hj
    exact Ev.step (f := fun _ => some true) (fun k => by rw [laws_eqIntSS.l0, if_neg (by omega)]) (Ev.now _)
  | succ d ih =>
    intro j hd hj
    have hlt : j < x.length := by omega
    refine Ev.step (f := fun k => (laws_eqIntS.f k x[j] x[j]).bind fun t => if t = true then laws_eqIntSS.l0 k x x ((j + 1 : Nat) : Int) else some false) (fun k => ?_) (Ev.bind (eqIntS_self _ (hxs _ (List.getElem_mem hlt))) (ev_pos rfl (ih (j + 1) (by omega) (by omega))))
    rw [laws_eqIntSS.l0, if_pos (by omega), if_pos (by omega), if_pos (by omega), rd_L1_get hlt, w64 (by omega) (by omega), cast1]
theorem eqIntSS_self (x : List (List Int)) (hx : x.length + sumLen x ≤ 1048576) : Ev (fun k => laws_eqIntSS.f k x x) true := by
  unfold laws_eqIntSS.f
  refine ev_pos rfl ?_
  exact eqIntSS_l0 x (by omega) (fun t ht => by have := sumLen_mem ht; omega) x.length 0 (by omega) (by omega)
end Go.Proofs.Ytbekhijknpgbbaa.Q

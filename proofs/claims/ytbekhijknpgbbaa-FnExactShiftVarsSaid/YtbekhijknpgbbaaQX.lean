/- Plain facts: shifted variables; no condition but bounds on lengths. -/
import Derived.Test.YtbekhijknpgbbaaQT
import Derived.Test.YtbekhijknpgbbaaGH40
import Derived.Test.YtbekhijknpgbbaaGH42
namespace Go.Proofs.Ytbekhijknpgbbaa.Q
open Go.RowKit Go.Proofs.Ytbekhijknpgbbaa.G Go.Proofs.YtbekhijknpgbbaaW.PrintWords Go.Proofs.YtbekhijknpgbbaaW.PrintLast Go.Proofs.YtbekhijknpgbbaaW.PrintMore
set_option linter.unusedVariables false
theorem own_eq (x : List Int) (hx : x.length ≤ 1000000) : spec_l1Own.f x = some x := by
  unfold spec_l1Own.f
  simp only [Option.bind_some, List.length_nil, List.nil_append]
  rw [if_pos (by omega)]
theorem clone_eq (x : List Int) (hx : x.length ≤ 1000000) : slices_Clone_int_int.f x = some x := by
  unfold slices_Clone_int_int.f
  simp only [Option.bind_some, List.length_nil, List.nil_append]
  rw [if_pos (by omega)]
def shift1 (b n : Int) : Int := if n < 0 then n - b else n
theorem rd_mid {t y : List Int} {j : Nat} (hlt : j < t.length) (hy : y.length = t.length) (hd : y.drop j = t.drop j) : rd y (j : Int) = t[j] := by
  have hlt2 : j < y.length := by omega
  rw [rd_get hlt2]
  rw [List.drop_eq_getElem_cons hlt, List.drop_eq_getElem_cons hlt2] at hd
  exact (List.cons.inj hd).1
theorem set_step {t y : List Int} {f : Int → Int} {j : Nat} (hlt : j < t.length) (hy : y.length = t.length) (ht : y.take j = (t.map f).take j) (hd : y.drop j = t.drop j) :
    (y.set j (f t[j])).take (j + 1) = (t.map f).take (j + 1) ∧ (y.set j (f t[j])).drop (j + 1) = t.drop (j + 1) := by
  constructor
  · rw [List.take_succ_eq_append_getElem (by rw [List.length_set]; omega), List.take_succ_eq_append_getElem (by rw [List.length_map]; omega), List.getElem_set_self, List.take_set_of_le (Nat.le_refl _), ht, List.getElem_map]
  · rw [List.drop_set_of_lt (by omega)]
    have := congrArg (List.drop 1) hd
    simpa [List.drop_drop, Nat.add_comm] using this
theorem keep_step {t y : List Int} {f : Int → Int} {j : Nat} (hlt : j < t.length) (hy : y.length = t.length) (ht : y.take j = (t.map f).take j) (hd : y.drop j = t.drop j) (he : f t[j] = t[j]) :
    y.take (j + 1) = (t.map f).take (j + 1) ∧ y.drop (j + 1) = t.drop (j + 1) := by
  have hlt2 : j < y.length := by omega
  have e : y[j] = t[j] := by
    rw [List.drop_eq_getElem_cons hlt, List.drop_eq_getElem_cons hlt2] at hd
    exact (List.cons.inj hd).1
  constructor
  · rw [List.take_succ_eq_append_getElem hlt2, List.take_succ_eq_append_getElem (by rw [List.length_map]; omega), ht, List.getElem_map, he, e]
  · have := congrArg (List.drop 1) hd
    simpa [List.drop_drop, Nat.add_comm] using this
theorem whole {t y : List Int} {f : Int → Int} (hy : y.length = t.length) (ht : y.take t.length = (t.map f).take t.length) : y = t.map f := by
  rw [List.take_of_length_le (by omega), List.take_of_length_le (by simp)] at ht
  exact ht
theorem Shift_l0 (t : List Int) (b : Int) (hb : 0 ≤ b) (hb2 : b ≤ 1000) (ht : t.length ≤ 1000000) (hlow : ∀ n ∈ t, -1000 ≤ n ∧ n ≤ 1000000000) (d : Nat) : ∀ (j : Nat) (y : List Int), t.length - j = d → j ≤ t.length → y.length = t.length → y.take j = (t.map (shift1 b)).take j → y.drop j = t.drop j →
    Ev (fun k => spec_l1Shift.l0 k b y (t.length : Int) (j : Int)) (t.map (shift1 b)) ∧ Ev (fun k => impl_shift.l0 k b y (t.length : Int) (j : Int)) (t.map (shift1 b)) := by
  induction d with
  | zero =>
    intro j y hd hj hy h1 h2
    have e : j = t.length := by omega
    subst e
    have e := whole hy h1
    exact ⟨Ev.step (f := fun _ => some y) (fun k => by rw [spec_l1Shift.l0, if_neg (by omega)]) (ev_some e), Ev.step (f := fun _ => some y) (fun k => by rw [impl_shift.l0, if_neg (by omega)]) (ev_some e)⟩
  | succ d ih =>
    intro j y hd hj hy h1 h2
    have hlt : j < t.length := by omega
    have hr := rd_mid hlt hy h2
    have hl := hlow _ (List.getElem_mem hlt)
    by_cases hn : t[j] < 0
    · have e : shift1 b t[j] = t[j] - b := if_pos hn
      have hs := set_step (f := shift1 b) hlt hy h1 h2
      obtain ⟨i1, i2⟩ := ih (j + 1) (y.set j (shift1 b t[j])) (by omega) (by omega) (by rw [List.length_set]; exact hy) hs.1 hs.2
      rw [e] at i1 i2
      refine ⟨Ev.step (fun k => ?_) i1, Ev.step (fun k => ?_) i2⟩
      · rw [spec_l1Shift.l0, if_pos (by omega), if_pos (by omega), if_pos (by omega), hr, if_pos hn, Int.toNat_natCast, w64 (by omega) (by omega), w64 (by omega) (by omega), cast1]
      · rw [impl_shift.l0, if_pos (by omega), if_pos (by omega), if_pos (by omega), hr, if_pos hn, Int.toNat_natCast, w64 (by omega) (by omega), w64 (by omega) (by omega), cast1]
    · have e : shift1 b t[j] = t[j] := if_neg hn
      have hs := keep_step (f := shift1 b) hlt hy h1 h2 e
      obtain ⟨i1, i2⟩ := ih (j + 1) y (by omega) (by omega) hy hs.1 hs.2
      refine ⟨Ev.step (fun k => ?_) i1, Ev.step (fun k => ?_) i2⟩
      · rw [spec_l1Shift.l0, if_pos (by omega), if_pos (by omega), if_pos (by omega), hr, if_neg hn, w64 (by omega) (by omega), cast1]
      · rw [impl_shift.l0, if_pos (by omega), if_pos (by omega), if_pos (by omega), hr, if_neg hn, w64 (by omega) (by omega), cast1]
theorem Shift_ev (t : List Int) (b : Int) (hb : 0 ≤ b) (hb2 : b ≤ 1000) (ht : t.length ≤ 1000000) (hlow : ∀ n ∈ t, -1000 ≤ n ∧ n ≤ 1000000000) : Ev (fun k => spec_l1Shift.f k t b) (t.map (shift1 b)) ∧ Ev (fun k => impl_shift.f k t b) (t.map (shift1 b)) := by
  unfold spec_l1Shift.f impl_shift.f
  obtain ⟨h1, h2⟩ := Shift_l0 t b hb hb2 ht hlow t.length 0 t (by omega) (by omega) rfl rfl rfl
  exact ⟨ev_bind1 (own_eq t ht) h1, ev_bind1 (clone_eq t ht) h2⟩
end Go.Proofs.Ytbekhijknpgbbaa.Q

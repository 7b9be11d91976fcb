/- Plain facts on the functions that this seat's laws use for lists of numbers; no condition but bounds on lengths. -/
import Derived.Test.YtebamddebjehdaaGH1
import Derived.Test.YtebamddebjehdaaGH10
namespace Go.Proofs.Ytebamddebjehdaa.Q
open Go.RowKit Go.Proofs.Ytebamddebjehdaa.G Go.Proofs.YtebamddebjehdaaW.PrintWords Go.Proofs.YtebamddebjehdaaW.PrintLast Go.Proofs.YtebamddebjehdaaW.PrintMore
set_option linter.unusedVariables false
theorem w64 {x : Int} (h : -9223372036854775808 ≤ x) (h' : x < 9223372036854775808) : wrap64 x = x := by unfold wrap64; omega
theorem ev_pos {α : Type} {c : Prop} [Decidable c] {f g : Nat → Option α} {r : α} (h : c) (k : Ev f r) : Ev (fun n => if c then f n else g n) r := by simpa only [if_pos h] using k
theorem ev_neg {α : Type} {c : Prop} [Decidable c] {f g : Nat → Option α} {r : α} (h : ¬ c) (k : Ev g r) : Ev (fun n => if c then f n else g n) r := by simpa only [if_neg h] using k
theorem ev_some {α : Type} {a r : α} (h : a = r) : Ev (fun _ => some a) r := h ▸ Ev.now a
theorem ev_bind1 {α β : Type} {o : Option α} {f : Nat → α → Option β} {a : α} {r : β} (h : o = some a) (k : Ev (fun n => f n a) r) : Ev (fun n => o.bind (f n)) r := by subst h; exact k
theorem rd_get {l : List Int} {j : Nat} (h : j < l.length) : rd l (j : Int) = l[j] := by
  unfold rd
  rw [Int.toNat_natCast, List.getD_eq_getElem?_getD, List.getElem?_eq_getElem h]
  rfl
theorem cast1 (j : Nat) : ((j : Int) + 1) = ((j + 1 : Nat) : Int) := by omega

/-! ### sizes -/
theorem szIntS_eq (l : List Int) (a : Int) (ha : 0 ≤ a) (hb : a ≤ 1048576) (hl : l.length ≤ 140737488351232) : laws_szIntS.f l a = some (if a < (l.length : Int) then -1 else a - l.length) := by
  unfold laws_szIntS.f
  rw [w64 (by omega) (by omega)]
  by_cases h : a < (l.length : Int)
  · rw [if_pos h, if_pos (by omega)]
  · rw [if_neg h, if_neg (by omega)]
theorem szSign_eq (l : List Int) (a : Int) (ha : 0 ≤ a) (hb : a ≤ 1048576) (hl : l.length ≤ 140737488351232) : laws_szSign.f l a = some (if a < (l.length : Int) then -1 else a - l.length) := by
  unfold laws_szSign.f
  rw [szIntS_eq l a ha hb hl]
  simp only [Option.bind_some]
  by_cases h : a < (l.length : Int)
  · rw [if_pos h, if_pos (by omega)]
  · rw [if_neg h, if_neg (by omega)]

/-! ### copies -/
theorem toIntS_l0 (x : List Int) (hx : x.length ≤ 35184372088832) (d : Nat) : ∀ (j : Nat) (y : List Int), y.length = x.length → x.length - j = d → j ≤ x.length → y.take j = x.take j → Ev (fun k => laws_toIntS.l0 k x y (j : Int)) x := by
  induction d with
  | zero =>
    intro j y hy hd hj ht
    refine Ev.step (f := fun _ => some y) (fun k => by rw [laws_toIntS.l0, if_neg (by omega)]) (ev_some ?_)
    have e : j = x.length := by omega
    subst e
    rw [← hy, List.take_length, hy, List.take_length] at ht
    exact ht
  | succ d ih =>
    intro j y hy hd hj ht
    have hlt : j < x.length := by omega
    refine Ev.step (f := fun k => laws_toIntS.l0 k x (y.set j x[j]) ((j + 1 : Nat) : Int)) (fun k => ?_) (ih (j + 1) (y.set j x[j]) (by rw [List.length_set]; exact hy) (by omega) (by omega) ?_)
    · rw [laws_toIntS.l0, if_pos (by omega), if_pos (by omega), if_pos (by omega), w64 (by omega) (by omega), rd_get hlt, Int.toNat_natCast, cast1]
    · rw [List.take_succ_eq_append_getElem (by rw [List.length_set]; omega), List.take_succ_eq_append_getElem hlt, List.getElem_set_self, List.take_set_of_le (Nat.le_refl _), ht]
theorem toIntS_ev (x : List Int) (hx : x.length ≤ 35184372088832) : Ev (fun k => laws_toIntS.f k x) x := by
  unfold laws_toIntS.f
  refine ev_pos (by omega) (ev_pos (by omega) ?_)
  exact toIntS_l0 x hx x.length 0 _ (by simp) (by omega) (by omega) (by simp)
theorem toSign_ev (x : List Int) (hx : x.length ≤ 35184372088832) : Ev (fun k => laws_toSign.f k x) x := by
  unfold laws_toSign.f
  exact Ev.bind (toIntS_ev x hx) (Ev.now _)

/-! ### equal -/
theorem eqIntS_l0 (x y : List Int) (hx : x.length ≤ 140737488351232) (hxy : x.length = y.length) (d : Nat) : ∀ j : Nat, x.length - j = d → j ≤ x.length → Ev (fun k => laws_eqIntS.l0 k x y (j : Int)) (decide (x.drop j = y.drop j)) := by
  induction d with
  | zero =>
    intro j hd hj
    refine Ev.step (f := fun _ => some true) (fun k => by rw [laws_eqIntS.l0, if_neg (by omega)]) (ev_some ?_)
    rw [List.drop_eq_nil_of_le (by omega), List.drop_eq_nil_of_le (by omega)]
    simp
  | succ d ih =>
    intro j hd hj
    have hlt : j < x.length := by omega
    have hlt2 : j < y.length := by omega
    by_cases h : x[j] = y[j]
    · refine Ev.step (f := fun k => laws_eqIntS.l0 k x y ((j + 1 : Nat) : Int)) (fun k => ?_) ?_
      · rw [laws_eqIntS.l0, if_pos (by omega), if_pos (by omega), if_pos (by omega), rd_get hlt, rd_get hlt2, if_pos h, w64 (by omega) (by omega), cast1]
      · have e : (x.drop j = y.drop j) = (x.drop (j + 1) = y.drop (j + 1)) := by
          rw [List.drop_eq_getElem_cons hlt, List.drop_eq_getElem_cons hlt2, h]
          simp only [List.cons.injEq, true_and]
        simp only [e]
        exact ih (j + 1) (by omega) (by omega)
    · refine Ev.step (f := fun _ => some false) (fun k => ?_) (ev_some ?_)
      · rw [laws_eqIntS.l0, if_pos (by omega), if_pos (by omega), if_pos (by omega), rd_get hlt, rd_get hlt2, if_neg h]
      · have e : ¬ (x.drop j = y.drop j) := by
          rw [List.drop_eq_getElem_cons hlt, List.drop_eq_getElem_cons hlt2]
          intro e
          exact h (List.cons.inj e).1
        simp [e]
theorem eqIntS_ev (x y : List Int) (hx : x.length ≤ 140737488351232) : Ev (fun k => laws_eqIntS.f k x y) (decide (x = y)) := by
  unfold laws_eqIntS.f
  by_cases h : x.length = y.length
  · refine ev_pos (by omega) ?_
    simpa using eqIntS_l0 x y hx h x.length 0 (by omega) (by omega)
  · refine ev_neg (by omega) (ev_some ?_)
    have : x ≠ y := fun e => h (by rw [e])
    simp [this]
theorem eqIntS_self (x : List Int) (hx : x.length ≤ 140737488351232) : Ev (fun k => laws_eqIntS.f k x x) true := by simpa using eqIntS_ev x x hx
theorem eqSign_ev (x y : List Int) (hx : x.length ≤ 140737488351232) : Ev (fun k => laws_eqSign.f k x y) (decide (x = y)) := by
  unfold laws_eqSign.f
  refine Ev.bind (eqIntS_ev x y hx) ?_
  by_cases h : x = y
  · simp only [h, decide_true, if_true]; exact Ev.now _
  · simp only [h, decide_false, Bool.false_eq_true, if_false]; exact Ev.now _
theorem eqSign_self (x : List Int) (hx : x.length ≤ 140737488351232) : Ev (fun k => laws_eqSign.f k x x) true := by simpa using eqSign_ev x x hx
end Go.Proofs.Ytebamddebjehdaa.Q

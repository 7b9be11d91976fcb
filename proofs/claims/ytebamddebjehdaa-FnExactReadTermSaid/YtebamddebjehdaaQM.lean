/- Plain facts: marks in lists of numbers; no condition but bounds on lengths. -/
import Derived.Test.YtebamddebjehdaaQ0
import Derived.Test.YtebamddebjehdaaGH10
namespace Go.Proofs.Ytebamddebjehdaa.Q
open Go.RowKit Go.Proofs.Ytebamddebjehdaa.G Go.Proofs.YtebamddebjehdaaW.PrintWords Go.Proofs.YtebamddebjehdaaW.PrintLast Go.Proofs.YtebamddebjehdaaW.PrintMore
set_option linter.unusedVariables false
/-! ### marks -/
/-- n numbers from a on. -/
def run (a : Int) : Nat → List Int
  | 0 => []
  | n + 1 => a :: run (a + 1) n
theorem run_length (n : Nat) : ∀ a, (run a n).length = n := by
  induction n with
  | zero => intro a; rfl
  | succ n ih => intro a; simp [run, ih]
theorem run_get (n : Nat) : ∀ (a : Int) (j : Nat) (h : j < (run a n).length), (run a n)[j] = a + j := by
  induction n with
  | zero => intro a j h; simp [run] at h
  | succ n ih =>
    intro a j h
    cases j with
    | zero => simp [run]
    | succ j =>
      simp only [run, List.getElem_cons_succ]
      rw [ih]
      omega
theorem markIntS_l0 (n : Nat) (a : Int) (ha : 0 ≤ a) (hb : a + n ≤ 4611686018427387904) (d : Nat) : ∀ (j : Nat) (y : List Int), y.length = n → n - j = d → j ≤ n → y.take j = (run a n).take j → Ev (fun k => laws_markIntS.l0 k y (a + j) (j : Int)) (a + n, run a n) := by
  induction d with
  | zero =>
    intro j y hy hd hj ht
    have e : j = n := by omega
    subst e
    refine Ev.step (f := fun _ => some (a + (j : Int), y)) (fun k => by rw [laws_markIntS.l0, if_neg (by omega)]) (ev_some ?_)
    have h1 : y = run a j := by
      have h2 : y.take y.length = (run a j).take (run a j).length := by rw [run_length, hy]; exact ht
      rwa [List.take_length, List.take_length] at h2
    rw [h1]
  | succ d ih =>
    intro j y hy hd hj ht
    have hlt : j < n := by omega
    refine Ev.step (f := fun k => laws_markIntS.l0 k (y.set j (a + j)) (a + ((j + 1 : Nat) : Int)) ((j + 1 : Nat) : Int)) (fun k => ?_) (ih (j + 1) (y.set j (a + j)) (by rw [List.length_set]; exact hy) (by omega) (by omega) ?_)
    · rw [laws_markIntS.l0, if_pos (by omega), if_pos (by omega), w64 (by omega) (by omega), w64 (by omega) (by omega), Int.toNat_natCast, cast1, Int.add_assoc, cast1]
    · have hr : j < (run a n).length := by rw [run_length]; exact hlt
      rw [List.take_succ_eq_append_getElem (by rw [List.length_set]; omega), List.take_succ_eq_append_getElem hr, List.getElem_set_self, List.take_set_of_le (Nat.le_refl _), ht, run_get]
theorem markIntS_ev (y : List Int) (a : Int) (ha : 0 ≤ a) (hb : a + y.length ≤ 4611686018427387904) : Ev (fun k => laws_markIntS.f k y a) (a + y.length, run a y.length) := by
  unfold laws_markIntS.f
  have := markIntS_l0 y.length a ha hb y.length 0 y rfl (by omega) (by omega) (by simp)
  simpa using this
theorem markSign_ev (y : List Int) (a : Int) (ha : 0 ≤ a) (hb : a + y.length ≤ 4611686018427387904) : Ev (fun k => laws_markSign.f k y a) (a + y.length, run a y.length) := by
  unfold laws_markSign.f
  exact Ev.bind (markIntS_ev y a ha hb) (Ev.now _)
theorem heldIntS_l0 (n : Nat) (a : Int) (ha : 0 ≤ a) (hb : a + n ≤ 4611686018427387904) (d : Nat) : ∀ (j : Nat), n - j = d → j ≤ n → Ev (fun k => laws_heldIntS.l0 k (run a n) (a + j) (j : Int)) (a + n) := by
  induction d with
  | zero =>
    intro j hd hj
    have e : j = n := by omega
    subst e
    exact Ev.step (f := fun _ => some (a + (j : Int))) (fun k => by rw [laws_heldIntS.l0, if_neg (by rw [run_length]; omega)]) (Ev.now _)
  | succ d ih =>
    intro j hd hj
    have hlt : j < n := by omega
    have hr : j < (run a n).length := by rw [run_length]; exact hlt
    refine Ev.step (f := fun k => laws_heldIntS.l0 k (run a n) (a + ((j + 1 : Nat) : Int)) ((j + 1 : Nat) : Int)) (fun k => ?_) (ih (j + 1) (by omega) (by omega))
    rw [laws_heldIntS.l0, if_pos (by omega), if_pos (by omega), rd_get hr, run_get, if_pos rfl, w64 (by omega) (by omega), w64 (by omega) (by omega), cast1, Int.add_assoc, cast1]
theorem heldIntS_ev (n : Nat) (a : Int) (ha : 0 ≤ a) (hb : a + n ≤ 4611686018427387904) : Ev (fun k => laws_heldIntS.f k (run a n) a) (a + n) := by
  unfold laws_heldIntS.f
  have := heldIntS_l0 n a ha hb n 0 (by omega) (by omega)
  simpa using this
end Go.Proofs.Ytebamddebjehdaa.Q

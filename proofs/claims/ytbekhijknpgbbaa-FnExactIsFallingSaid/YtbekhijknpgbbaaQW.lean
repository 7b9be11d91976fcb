/- Plain facts: does every variable occur as often; no condition but bounds on lengths. -/
import Derived.Test.YtbekhijknpgbbaaQV
import Derived.Test.YtbekhijknpgbbaaGH11
import Derived.Test.YtbekhijknpgbbaaGH22
namespace Go.Proofs.Ytbekhijknpgbbaa.Q
open Go.RowKit Go.Proofs.Ytbekhijknpgbbaa.G Go.Proofs.YtbekhijknpgbbaaW.PrintWords Go.Proofs.YtbekhijknpgbbaaW.PrintLast Go.Proofs.YtbekhijknpgbbaaW.PrintMore
set_option linter.unusedVariables false
/-! ### does every variable occur as often -/
def coversFrom (a b : List Int) : Nat → Int → Bool
  | 0, _ => true
  | n + 1, v => if cnt (-1 - v) a < cnt (-1 - v) b then false else coversFrom a b n (v + 1)
theorem coversFrom_iff (a b : List Int) : ∀ (n : Nat) (v : Int), coversFrom a b n v = true ↔ ∀ x, v ≤ x → x < v + n → cnt (-1 - x) b ≤ cnt (-1 - x) a
  | 0, v => by simp [coversFrom]; intro x h1 h2; omega
  | n + 1, v => by
    unfold coversFrom
    by_cases h : cnt (-1 - v) a < cnt (-1 - v) b
    · rw [if_pos h]
      simp only [Bool.false_eq_true, false_iff]
      intro hall
      have := hall v (by omega) (by omega)
      omega
    · rw [if_neg h, coversFrom_iff a b n (v + 1)]
      constructor
      · intro hall x h1 h2
        by_cases e : x = v
        · subst e; omega
        · exact hall x (by omega) (by omega)
      · intro hall x h1 h2
        exact hall x (by omega) (by omega)
theorem covers_l0 (a b : List Int) (ha : a.length ≤ 140737488351232) (hb : b.length ≤ 140737488351232) : ∀ (n v : Nat), v + n = 12 → Ev (fun k => impl_coversVars.l0 k a b (v : Int)) (coversFrom a b n (v : Int))
  | 0, v, h => Ev.step (f := fun _ => some true) (fun k => by rw [impl_coversVars.l0, if_neg (by omega)]) (Ev.now _)
  | n + 1, v, h => by
    refine Ev.step (f := fun k => (impl_count.f k a (-1 - (v : Int))).bind fun t588 => (impl_count.f k b (-1 - (v : Int))).bind fun t589 => if t588 < t589 then some false else impl_coversVars.l0 k a b ((v + 1 : Nat) : Int)) (fun k => ?_) (Ev.bind (impl_count_ev a _ ha) (Ev.bind (impl_count_ev b _ hb) ?_))
    · rw [impl_coversVars.l0, if_pos (by omega), w64 (by omega) (by omega), w64 (by omega) (by omega), cast1]
    · unfold coversFrom
      by_cases hc : cnt (-1 - (v : Int)) a < cnt (-1 - (v : Int)) b
      · rw [if_pos hc]; exact ev_pos (by omega) (Ev.now _)
      · rw [if_neg hc, cast1]; exact ev_neg (by omega) (covers_l0 a b ha hb n (v + 1) (by omega))
/-- Every variable occurs in a at least as often as in b. -/
def covers (a b : List Int) : Bool := coversFrom a b 12 0
theorem coversVars_ev (a b : List Int) (ha : a.length ≤ 140737488351232) (hb : b.length ≤ 140737488351232) : Ev (fun k => impl_coversVars.f k a b) (covers a b) := by
  unfold impl_coversVars.f covers
  simpa using covers_l0 a b ha hb 12 0 (by omega)
theorem Weighs_l0 (a b V : List Int) (ha : a.length ≤ 140737488351232) (hb : b.length ≤ 140737488351232) (hV : V.length ≤ 1000000) (hlo : ∀ v ∈ V, 0 ≤ v ∧ v ≤ 1000000) (d : Nat) : ∀ j : Nat, V.length - j = d → j ≤ V.length →
    Ev (fun k => spec_l3Weighs.l0 k a b V (V.length : Int) (j : Int)) ((V.drop j).all fun v => decide (cnt (-1 - v) b ≤ cnt (-1 - v) a)) := by
  induction d with
  | zero =>
    intro j hd hj
    refine Ev.step (f := fun _ => some true) (fun k => by rw [spec_l3Weighs.l0, if_neg (by omega)]) (ev_some ?_)
    rw [List.drop_eq_nil_of_le (by omega)]; rfl
  | succ d ih =>
    intro j hd hj
    have hlt : j < V.length := by omega
    have hv := hlo _ (List.getElem_mem hlt)
    refine Ev.step (f := fun k => (spec_l1Count.f k a (-1 - V[j])).bind fun t582 => (spec_l1Count.f k b (-1 - V[j])).bind fun t583 => if t582 < t583 then some false else spec_l3Weighs.l0 k a b V (V.length : Int) ((j + 1 : Nat) : Int)) (fun k => ?_) (Ev.bind (spec_count_ev a _ ha) (Ev.bind (spec_count_ev b _ hb) ?_))
    · rw [spec_l3Weighs.l0, if_pos (by omega), if_pos (by omega), if_pos (by omega), rd_get hlt, w64 (by omega) (by omega), w64 (by omega) (by omega), cast1]
    · rw [List.drop_eq_getElem_cons hlt, List.all_cons]
      by_cases hc : cnt (-1 - V[j]) a < cnt (-1 - V[j]) b
      · refine ev_pos (by omega) (ev_some ?_)
        simp [show ¬ (cnt (-1 - V[j]) b ≤ cnt (-1 - V[j]) a) by omega]
      · refine ev_neg (by omega) ?_
        have := ih (j + 1) (by omega) (by omega)
        simpa [show cnt (-1 - V[j]) b ≤ cnt (-1 - V[j]) a by omega] using this
theorem cnt_pos {n : Int} {l : List Int} : 0 < cnt n l ↔ n ∈ l := by
  unfold cnt
  rw [List.countP_pos_iff]
  simp
theorem Weighs_ev (a b : List Int) (ha : a.length ≤ 140737488351232) (hb : b.length ≤ 1000) (hlow : ∀ n ∈ b, -12 ≤ n) : Ev (fun k => spec_l3Weighs.f k a b) (covers a b) := by
  unfold spec_l3Weighs.f
  have hlen : (vars1 b).length ≤ 12 := by rw [vars_same b hlow]; exact numsFrom_length _ 12 0
  have hmem : ∀ v ∈ vars1 b, 0 ≤ v ∧ v < 12 := fun v hv => by
    obtain ⟨h1, h2⟩ := (vars1_mem b v).1 hv
    have := hlow _ h2
    omega
  refine Ev.bind (Vars_ev b (by omega) (fun n hn => by have := hlow n hn; omega)) ?_
  have := Weighs_l0 a b (vars1 b) ha (by omega) (by omega) (fun v hv => by have := hmem v hv; omega) (vars1 b).length 0 (by omega) (by omega)
  have e : covers a b = ((vars1 b).drop 0).all fun v => decide (cnt (-1 - v) b ≤ cnt (-1 - v) a) := by
    rw [List.drop_zero, Bool.eq_iff_iff]
    unfold covers
    rw [coversFrom_iff, List.all_eq_true]
    constructor
    · intro h v hv
      have := hmem v hv
      rw [decide_eq_true_eq]
      exact h v (by omega) (by omega)
    · intro h x h1 h2
      by_cases hx : x ∈ vars1 b
      · simpa using h x hx
      · have : ¬ (-1 - x ∈ b) := fun h' => hx ((vars1_mem b x).2 ⟨h1, h'⟩)
        rw [← cnt_pos] at this
        omega
  rw [e]
  exact this
end Go.Proofs.Ytbekhijknpgbbaa.Q
